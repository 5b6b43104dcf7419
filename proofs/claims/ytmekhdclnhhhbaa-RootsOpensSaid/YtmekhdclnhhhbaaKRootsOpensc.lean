/- Parts of the proof, one behind the other. -/
import Derived.Test.YtmekhdclnhhhbaaKRootsOpensb
set_option linter.unusedSimpArgs false
set_option linter.unusedVariables false
section
namespace Go.Proofs.Ytmekhdclnhhhbaa
open Go.RowKit
theorem nClone (A : Addr) (n c : Nat) (zs : List Int) (w : World) (hz : Sees (Value.int .u64) w [] (some A) zs) (hl : zs.length = n) (hn : n ≤ 1000000) :
  Calls Try.prog 79 [.slice (some A) n c].toArray w fun e w' => ∃ b c', e = .returned (.slice (some ⟨b, 0, none⟩) n c') ∧ (n ≤ c' ∧ c' ≤ 9223372036854775807) ∧ Heap w [] [vec (Value.int .u64) b zs 22] w' := by
 have H := Heap.nil w
 refine k_in (N := 8) Try.func79 rfl rfl rfl ?_
 refine k_sg ?_
 refine s_run rfl rfl (ras rfl) ?_
 refine k_nc ?_
 refine k_seq ?_
 refine k_sg ?_
 refine s_run rfl rfl (rms rfl) ?_
 refine s_run rfl rfl (r_slnilF rfl rfl Try.underlying25) ?_
 refine k_nc ?_
 refine k_f rfl ?_
 refine k_skip ?_
 refine c_norm ?_
 refine k_sg ?_
 refine s_bs0 1 (by omega) H rfl Try.underlying25 inf22 ?_
 intro _ _ H'; clear H; have H := H'; clear H'
 refine s_run rfl rfl (rms rfl) ?_
 refine s_apps (enc := (Value.int .u64)) (xs := []) H 0 rfl rfl rfl rfl (hz) (hl) (fun _ => rfl) (by omega) Try.underlying25 inf22 rfl ?_
 intro A' c' _ hA H'; simp only [List.set_cons_zero, List.set_cons_succ, List.take_succ_cons, List.take_zero, List.drop_succ_cons, List.drop_zero, List.cons_append, List.nil_append, List.append_nil, List.length_cons, List.length_nil, Nat.reduceAdd] at H'; clear H; have H := H'; clear H'
 refine s_run rfl rfl (ras rfl) ?_
 refine k_nc ?_
 refine k_ret ?_
 refine fin1r (v := .slice _ _ _) rfl rfl ?_
 obtain ⟨b, rfl⟩ := hA (by simp)
 rw [Nat.zero_add] at H
 refine ⟨b, c', by rw [Nat.zero_add], ?_⟩
 by_cases h0 : 0 < n
 ·obtain ⟨b', c2, e1, e2, e3, H2⟩ := own_vec H h0
  injection e1 with e4 _ e5
  injection e4 with e4
  injection e4 with e4
  subst e4; subst e5
  unfold maxLen at e3
  exact ⟨⟨e2, e3⟩, H2⟩
 ·obtain rfl : n = 0 := by omega
  obtain rfl : zs = [] := List.eq_nil_of_length_eq_zero hl
  have ho := H.own_get 0 rfl
  have hb : (0 ≤ c' ∧ c' ≤ 9223372036854775807) := by
   rcases ho.2 with ⟨e, _⟩ | ⟨q, cap, cur, e, _, _, _, hcm, _⟩
   ·cases e
   ·injection e with _ _ e; subst e; unfold maxLen at hcm; omega
  exact ⟨hb, fun E hE => by (rw [List.mem_singleton.1 hE]; exact fun h => absurd rfl h), by simp [ids, vec], by simp [ids, vec], H.only⟩
theorem nload (b c m : Nat) (ws : List Int) (w : World) (hE : Ents [vec (Value.int .u64) b ws 22] w) (hl : ws.length = 8 * m) (hm : m ≤ 100000) (hc : 8 * m ≤ c ∧ c ≤ 9223372036854775807) :
  Calls Try.prog 65 [.slice (some ⟨b, 0, none⟩) (8 * m) c].toArray w fun e w' => ∃ g, e = .returned (ptr g.p) ∧ GOk g m ∧ Heap w (ids [vec (Value.int .u64) b ws 22]) (devL g (Nv.load ws m)) w' := by
 have H := Heap.start hE
 generalize hF : ids [vec (Value.int .u64) b ws 22] = F at H ⊢
 refine k_in (N := 19) Try.func65 rfl rfl rfl ?_
 refine k_sg ?_
 refine s_run rfl rfl (rap rfl) ?_
 refine k_nc ?_
 refine k_sg ?_
 refine s_run rfl rfl (rms rfl) ?_
 refine s_run rfl rfl (r_len rfl Try.underlying25) ?_
 refine s_run rfl rfl (r_quo rfl rfl (by omega) (wI (by omega))) ?_
 refine s_run rfl rfl (rai rfl) ?_
 refine k_nc ?_
 refine k_seq ?_
 refine k_cut (fun f' W' => ∃ p bc cc bf bd bp, (8 * m ≤ cc ∧ cc ≤ 9223372036854775807) ∧ f' 2 = ptr p ∧ Heap w F [blk p [.slice (some ⟨b, 0, none⟩) (8 * m) c, .slice (some ⟨bc, 0, none⟩) (8 * m) cc, .slice (some ⟨bf, 0, none⟩) (8 * m) (8 * m), .slice (some ⟨bd, 0, none⟩) m m, .slice (some ⟨bp, 0, none⟩) m m, .int .i64 0, .int .i64 0, .bool false, .bool false] 114, vec Value.bool bp (List.replicate m false) 4, vec Value.bool bd (List.replicate m false) 4, vec (Value.int .u64) bf (List.replicate (8 * m) 0) 22, vec (Value.int .u64) bc ws 22, vec (Value.int .u64) b ws 22] W') ?_ ?_
 ·have HR := H; clear H; have H := HR.tree; refine k_tr mixed ?_
  refine tqn 0 rfl rfl rfl (fun _ hS => r_mv (v := .slice _ _ _) rfl) H.only ?_
  refine tqn 1 rfl rfl rfl (fun _ hS => r_mv (v := .slice _ _ _) rfl) H.only ?_
  refine tqn 3 rfl rfl rfl (fun _ hS => r_mv (v := .slice _ _ _) rfl) H.only ?_
  refine tqn 4 rfl rfl rfl (fun _ hS => r_len rfl Try.underlying25) H.only ?_
  refine tqn 6 rfl rfl rfl (fun _ hS => r_mv (v := .int _ _) rfl) H.only ?_
  refine tqn 8 rfl rfl rfl (fun _ hS => r_mv (v := .int _ _) rfl) H.only ?_
  refine t_up4 2 5 7 9 (by kernel_rfl) ?_ ?_ ?_ ?_
  ·refine up_mk rfl ?_
   refine s_call rfl (nClone _ _ _ ws _ (fun _ => ⟨_, _, rfl, by simp, (HR.same H.only).reads0 0 rfl⟩) (by omega) (by omega)) (ca79 rfl) ?_
   rintro e W1 ⟨bc, cc, rfl, hcc, H'⟩
   refine ⟨_, rfl, ?_⟩
   have H := H.more H'; clear H'
   refine k_nil ?_
   refine t_on H.only ?_
   refine t_up3 5 7 9 (by kernel_rfl) ?_ ?_ ?_
   ·refine up_mk rfl ?_
    refine s_mk (Value.int .u64) 0 (m := (8 * m)) H rfl rfl rfl (by omega) (by omega) (by omega) Try.underlying25 inf22 rfl ?_
    intro bf _ H'; clear H; have H := H'; clear H'
    refine k_nil ?_
    refine t_on H.only ?_
    refine t_up2 7 9 (by kernel_rfl) ?_ ?_
    ·refine up_mk rfl ?_
     refine s_mk Value.bool false (m := m) H rfl rfl rfl (by omega) (by omega) (by omega) Try.underlying53 inf4 rfl ?_
     intro bd _ H'; clear H; have H := H'; clear H'
     refine k_nil ?_
     refine t_on H.only ?_
     refine t_up1 9 (by kernel_rfl) ?_
     refine up_mk rfl ?_
     refine s_mk Value.bool false (m := m) H rfl rfl rfl (by omega) (by omega) (by omega) Try.underlying53 inf4 rfl ?_
     intro bp _ H'; clear H; have H := H'; clear H'
     refine k_nil ?_
     refine t_on H.only ?_
     refine tqn 10 rfl rfl rfl (fun _ hS => r_bd (bd114_0_1_2_3_4 _ _ _ _ _ _ _ _ _ _ _ _ _ _ _) rfl) H.only ?_
     refine t_up1 11 (by kernel_rfl) ?_
     refine up_mk rfl ?_
     refine s_box H rfl rfl ?_
     intro p18 _ H'; clear H; have H := H'; clear H'
     refine k_nil ?_
     refine t_on H.only ?_
     refine tqn 12 rfl rfl rfl (fun _ hS => r_as (v := .pointer _) rfl) H.only ?_
     refine t_done (by kernel_rfl) ?_
     have H := HR.more H; clear HR; simp only [List.cons_append, List.nil_append] at H
     refine k_met ?_
     exact ⟨_, _, _, _, _, _, hcc, rfl, H⟩
    ·refine up_mk rfl ?_
     refine s_mk Value.bool false (m := m) H rfl rfl rfl (by omega) (by omega) (by omega) Try.underlying53 inf4 rfl ?_
     intro bp _ H'; clear H; have H := H'; clear H'
     refine k_nil ?_
     refine t_on H.only ?_
     refine t_up1 7 (by kernel_rfl) ?_
     refine up_mk rfl ?_
     refine s_mk Value.bool false (m := m) H rfl rfl rfl (by omega) (by omega) (by omega) Try.underlying53 inf4 rfl ?_
     intro bd _ H'; clear H; have H := H'; clear H'
     refine k_nil ?_
     refine t_on H.only ?_
     refine tqn 10 rfl rfl rfl (fun _ hS => r_bd (bd114_0_1_2_3_4 _ _ _ _ _ _ _ _ _ _ _ _ _ _ _) rfl) H.only ?_
     refine t_up1 11 (by kernel_rfl) ?_
     refine up_mk rfl ?_
     refine s_box H rfl rfl ?_
     intro p18 _ H'; clear H; have H := H'; clear H'
     refine k_nil ?_
     refine t_on H.only ?_
     refine tqn 12 rfl rfl rfl (fun _ hS => r_as (v := .pointer _) rfl) H.only ?_
     refine t_done (by kernel_rfl) ?_
     replace H := H.pick 4 rfl; simp only [jL, jM] at H
     replace H := H.pick 4 rfl; simp only [jL, jM] at H
     replace H := H.pick 3 rfl; simp only [jL, jM] at H
     replace H := H.pick 4 rfl; simp only [jL, jM] at H
     replace H := H.pick 4 rfl; simp only [jL, jM] at H
     have H := HR.more H; clear HR; simp only [List.cons_append, List.nil_append] at H
     refine k_met ?_
     exact ⟨_, _, _, _, _, _, hcc, rfl, H⟩
   ·refine up_mk rfl ?_
    refine s_mk Value.bool false (m := m) H rfl rfl rfl (by omega) (by omega) (by omega) Try.underlying53 inf4 rfl ?_
    intro bd _ H'; clear H; have H := H'; clear H'
    refine k_nil ?_
    refine t_on H.only ?_
    refine t_up2 5 9 (by kernel_rfl) ?_ ?_
    ·refine up_mk rfl ?_
     refine s_mk (Value.int .u64) 0 (m := (8 * m)) H rfl rfl rfl (by omega) (by omega) (by omega) Try.underlying25 inf22 rfl ?_
     intro bf _ H'; clear H; have H := H'; clear H'
     refine k_nil ?_
     refine t_on H.only ?_
     refine t_up1 9 (by kernel_rfl) ?_
     refine up_mk rfl ?_
     refine s_mk Value.bool false (m := m) H rfl rfl rfl (by omega) (by omega) (by omega) Try.underlying53 inf4 rfl ?_
     intro bp _ H'; clear H; have H := H'; clear H'
     refine k_nil ?_
     refine t_on H.only ?_
     refine tqn 10 rfl rfl rfl (fun _ hS => r_bd (bd114_0_1_2_3_4 _ _ _ _ _ _ _ _ _ _ _ _ _ _ _) rfl) H.only ?_
     refine t_up1 11 (by kernel_rfl) ?_
     refine up_mk rfl ?_
     refine s_box H rfl rfl ?_
     intro p18 _ H'; clear H; have H := H'; clear H'
     refine k_nil ?_
     refine t_on H.only ?_
     refine tqn 12 rfl rfl rfl (fun _ hS => r_as (v := .pointer _) rfl) H.only ?_
     refine t_done (by kernel_rfl) ?_
     replace H := H.pick 4 rfl; simp only [jL, jM] at H
     replace H := H.pick 3 rfl; simp only [jL, jM] at H
     replace H := H.pick 4 rfl; simp only [jL, jM] at H
     replace H := H.pick 4 rfl; simp only [jL, jM] at H
     replace H := H.pick 4 rfl; simp only [jL, jM] at H
     have H := HR.more H; clear HR; simp only [List.cons_append, List.nil_append] at H
     refine k_met ?_
     exact ⟨_, _, _, _, _, _, hcc, rfl, H⟩
    ·refine up_mk rfl ?_
     refine s_mk Value.bool false (m := m) H rfl rfl rfl (by omega) (by omega) (by omega) Try.underlying53 inf4 rfl ?_
     intro bp _ H'; clear H; have H := H'; clear H'
     refine k_nil ?_
     refine t_on H.only ?_
     refine t_up1 5 (by kernel_rfl) ?_
     refine up_mk rfl ?_
     refine s_mk (Value.int .u64) 0 (m := (8 * m)) H rfl rfl rfl (by omega) (by omega) (by omega) Try.underlying25 inf22 rfl ?_
     intro bf _ H'; clear H; have H := H'; clear H'
     refine k_nil ?_
     refine t_on H.only ?_
     refine tqn 10 rfl rfl rfl (fun _ hS => r_bd (bd114_0_1_2_3_4 _ _ _ _ _ _ _ _ _ _ _ _ _ _ _) rfl) H.only ?_
     refine t_up1 11 (by kernel_rfl) ?_
     refine up_mk rfl ?_
     refine s_box H rfl rfl ?_
     intro p18 _ H'; clear H; have H := H'; clear H'
     refine k_nil ?_
     refine t_on H.only ?_
     refine tqn 12 rfl rfl rfl (fun _ hS => r_as (v := .pointer _) rfl) H.only ?_
     refine t_done (by kernel_rfl) ?_
     replace H := H.pick 4 rfl; simp only [jL, jM] at H
     replace H := H.pick 2 rfl; simp only [jL, jM] at H
     replace H := H.pick 4 rfl; simp only [jL, jM] at H
     replace H := H.pick 4 rfl; simp only [jL, jM] at H
     replace H := H.pick 4 rfl; simp only [jL, jM] at H
     have H := HR.more H; clear HR; simp only [List.cons_append, List.nil_append] at H
     refine k_met ?_
     exact ⟨_, _, _, _, _, _, hcc, rfl, H⟩
   ·refine up_mk rfl ?_
    refine s_mk Value.bool false (m := m) H rfl rfl rfl (by omega) (by omega) (by omega) Try.underlying53 inf4 rfl ?_
    intro bp _ H'; clear H; have H := H'; clear H'
    refine k_nil ?_
    refine t_on H.only ?_
    refine t_up2 5 7 (by kernel_rfl) ?_ ?_
    ·refine up_mk rfl ?_
     refine s_mk (Value.int .u64) 0 (m := (8 * m)) H rfl rfl rfl (by omega) (by omega) (by omega) Try.underlying25 inf22 rfl ?_
     intro bf _ H'; clear H; have H := H'; clear H'
     refine k_nil ?_
     refine t_on H.only ?_
     refine t_up1 7 (by kernel_rfl) ?_
     refine up_mk rfl ?_
     refine s_mk Value.bool false (m := m) H rfl rfl rfl (by omega) (by omega) (by omega) Try.underlying53 inf4 rfl ?_
     intro bd _ H'; clear H; have H := H'; clear H'
     refine k_nil ?_
     refine t_on H.only ?_
     refine tqn 10 rfl rfl rfl (fun _ hS => r_bd (bd114_0_1_2_3_4 _ _ _ _ _ _ _ _ _ _ _ _ _ _ _) rfl) H.only ?_
     refine t_up1 11 (by kernel_rfl) ?_
     refine up_mk rfl ?_
     refine s_box H rfl rfl ?_
     intro p18 _ H'; clear H; have H := H'; clear H'
     refine k_nil ?_
     refine t_on H.only ?_
     refine tqn 12 rfl rfl rfl (fun _ hS => r_as (v := .pointer _) rfl) H.only ?_
     refine t_done (by kernel_rfl) ?_
     replace H := H.pick 4 rfl; simp only [jL, jM] at H
     replace H := H.pick 3 rfl; simp only [jL, jM] at H
     replace H := H.pick 3 rfl; simp only [jL, jM] at H
     replace H := H.pick 4 rfl; simp only [jL, jM] at H
     replace H := H.pick 4 rfl; simp only [jL, jM] at H
     have H := HR.more H; clear HR; simp only [List.cons_append, List.nil_append] at H
     refine k_met ?_
     exact ⟨_, _, _, _, _, _, hcc, rfl, H⟩
    ·refine up_mk rfl ?_
     refine s_mk Value.bool false (m := m) H rfl rfl rfl (by omega) (by omega) (by omega) Try.underlying53 inf4 rfl ?_
     intro bd _ H'; clear H; have H := H'; clear H'
     refine k_nil ?_
     refine t_on H.only ?_
     refine t_up1 5 (by kernel_rfl) ?_
     refine up_mk rfl ?_
     refine s_mk (Value.int .u64) 0 (m := (8 * m)) H rfl rfl rfl (by omega) (by omega) (by omega) Try.underlying25 inf22 rfl ?_
     intro bf _ H'; clear H; have H := H'; clear H'
     refine k_nil ?_
     refine t_on H.only ?_
     refine tqn 10 rfl rfl rfl (fun _ hS => r_bd (bd114_0_1_2_3_4 _ _ _ _ _ _ _ _ _ _ _ _ _ _ _) rfl) H.only ?_
     refine t_up1 11 (by kernel_rfl) ?_
     refine up_mk rfl ?_
     refine s_box H rfl rfl ?_
     intro p18 _ H'; clear H; have H := H'; clear H'
     refine k_nil ?_
     refine t_on H.only ?_
     refine tqn 12 rfl rfl rfl (fun _ hS => r_as (v := .pointer _) rfl) H.only ?_
     refine t_done (by kernel_rfl) ?_
     replace H := H.pick 4 rfl; simp only [jL, jM] at H
     replace H := H.pick 2 rfl; simp only [jL, jM] at H
     replace H := H.pick 3 rfl; simp only [jL, jM] at H
     replace H := H.pick 4 rfl; simp only [jL, jM] at H
     replace H := H.pick 4 rfl; simp only [jL, jM] at H
     have H := HR.more H; clear HR; simp only [List.cons_append, List.nil_append] at H
     refine k_met ?_
     exact ⟨_, _, _, _, _, _, hcc, rfl, H⟩
  ·refine up_mk rfl ?_
   refine s_mk (Value.int .u64) 0 (m := (8 * m)) H rfl rfl rfl (by omega) (by omega) (by omega) Try.underlying25 inf22 rfl ?_
   intro bf _ H'; clear H; have H := H'; clear H'
   refine k_nil ?_
   refine t_on H.only ?_
   refine t_up3 2 7 9 (by kernel_rfl) ?_ ?_ ?_
   ·refine up_mk rfl ?_
    refine s_call rfl (nClone _ _ _ ws _ (fun _ => ⟨_, _, rfl, by simp, (HR.same H.only).reads0 0 rfl⟩) (by omega) (by omega)) (ca79 rfl) ?_
    rintro e W1 ⟨bc, cc, rfl, hcc, H'⟩
    refine ⟨_, rfl, ?_⟩
    have H := H.more H'; clear H'
    refine k_nil ?_
    refine t_on H.only ?_
    refine t_up2 7 9 (by kernel_rfl) ?_ ?_
    ·refine up_mk rfl ?_
     refine s_mk Value.bool false (m := m) H rfl rfl rfl (by omega) (by omega) (by omega) Try.underlying53 inf4 rfl ?_
     intro bd _ H'; clear H; have H := H'; clear H'
     refine k_nil ?_
     refine t_on H.only ?_
     refine t_up1 9 (by kernel_rfl) ?_
     refine up_mk rfl ?_
     refine s_mk Value.bool false (m := m) H rfl rfl rfl (by omega) (by omega) (by omega) Try.underlying53 inf4 rfl ?_
     intro bp _ H'; clear H; have H := H'; clear H'
     refine k_nil ?_
     refine t_on H.only ?_
     refine tqn 10 rfl rfl rfl (fun _ hS => r_bd (bd114_0_1_2_3_4 _ _ _ _ _ _ _ _ _ _ _ _ _ _ _) rfl) H.only ?_
     refine t_up1 11 (by kernel_rfl) ?_
     refine up_mk rfl ?_
     refine s_box H rfl rfl ?_
     intro p18 _ H'; clear H; have H := H'; clear H'
     refine k_nil ?_
     refine t_on H.only ?_
     refine tqn 12 rfl rfl rfl (fun _ hS => r_as (v := .pointer _) rfl) H.only ?_
     refine t_done (by kernel_rfl) ?_
     replace H := H.pick 3 rfl; simp only [jL, jM] at H
     replace H := H.pick 4 rfl; simp only [jL, jM] at H
     replace H := H.pick 4 rfl; simp only [jL, jM] at H
     replace H := H.pick 4 rfl; simp only [jL, jM] at H
     replace H := H.pick 4 rfl; simp only [jL, jM] at H
     have H := HR.more H; clear HR; simp only [List.cons_append, List.nil_append] at H
     refine k_met ?_
     exact ⟨_, _, _, _, _, _, hcc, rfl, H⟩
    ·refine up_mk rfl ?_
     refine s_mk Value.bool false (m := m) H rfl rfl rfl (by omega) (by omega) (by omega) Try.underlying53 inf4 rfl ?_
     intro bp _ H'; clear H; have H := H'; clear H'
     refine k_nil ?_
     refine t_on H.only ?_
     refine t_up1 7 (by kernel_rfl) ?_
     refine up_mk rfl ?_
     refine s_mk Value.bool false (m := m) H rfl rfl rfl (by omega) (by omega) (by omega) Try.underlying53 inf4 rfl ?_
     intro bd _ H'; clear H; have H := H'; clear H'
     refine k_nil ?_
     refine t_on H.only ?_
     refine tqn 10 rfl rfl rfl (fun _ hS => r_bd (bd114_0_1_2_3_4 _ _ _ _ _ _ _ _ _ _ _ _ _ _ _) rfl) H.only ?_
     refine t_up1 11 (by kernel_rfl) ?_
     refine up_mk rfl ?_
     refine s_box H rfl rfl ?_
     intro p18 _ H'; clear H; have H := H'; clear H'
     refine k_nil ?_
     refine t_on H.only ?_
     refine tqn 12 rfl rfl rfl (fun _ hS => r_as (v := .pointer _) rfl) H.only ?_
     refine t_done (by kernel_rfl) ?_
     replace H := H.pick 3 rfl; simp only [jL, jM] at H
     replace H := H.pick 4 rfl; simp only [jL, jM] at H
     replace H := H.pick 3 rfl; simp only [jL, jM] at H
     replace H := H.pick 4 rfl; simp only [jL, jM] at H
     replace H := H.pick 4 rfl; simp only [jL, jM] at H
     have H := HR.more H; clear HR; simp only [List.cons_append, List.nil_append] at H
     refine k_met ?_
     exact ⟨_, _, _, _, _, _, hcc, rfl, H⟩
   ·refine up_mk rfl ?_
    refine s_mk Value.bool false (m := m) H rfl rfl rfl (by omega) (by omega) (by omega) Try.underlying53 inf4 rfl ?_
    intro bd _ H'; clear H; have H := H'; clear H'
    refine k_nil ?_
    refine t_on H.only ?_
    refine t_up2 2 9 (by kernel_rfl) ?_ ?_
    ·refine up_mk rfl ?_
     refine s_call rfl (nClone _ _ _ ws _ (fun _ => ⟨_, _, rfl, by simp, (HR.same H.only).reads0 0 rfl⟩) (by omega) (by omega)) (ca79 rfl) ?_
     rintro e W1 ⟨bc, cc, rfl, hcc, H'⟩
     refine ⟨_, rfl, ?_⟩
     have H := H.more H'; clear H'
     refine k_nil ?_
     refine t_on H.only ?_
     refine t_up1 9 (by kernel_rfl) ?_
     refine up_mk rfl ?_
     refine s_mk Value.bool false (m := m) H rfl rfl rfl (by omega) (by omega) (by omega) Try.underlying53 inf4 rfl ?_
     intro bp _ H'; clear H; have H := H'; clear H'
     refine k_nil ?_
     refine t_on H.only ?_
     refine tqn 10 rfl rfl rfl (fun _ hS => r_bd (bd114_0_1_2_3_4 _ _ _ _ _ _ _ _ _ _ _ _ _ _ _) rfl) H.only ?_
     refine t_up1 11 (by kernel_rfl) ?_
     refine up_mk rfl ?_
     refine s_box H rfl rfl ?_
     intro p18 _ H'; clear H; have H := H'; clear H'
     refine k_nil ?_
     refine t_on H.only ?_
     refine tqn 12 rfl rfl rfl (fun _ hS => r_as (v := .pointer _) rfl) H.only ?_
     refine t_done (by kernel_rfl) ?_
     replace H := H.pick 2 rfl; simp only [jL, jM] at H
     replace H := H.pick 4 rfl; simp only [jL, jM] at H
     replace H := H.pick 4 rfl; simp only [jL, jM] at H
     replace H := H.pick 4 rfl; simp only [jL, jM] at H
     replace H := H.pick 4 rfl; simp only [jL, jM] at H
     have H := HR.more H; clear HR; simp only [List.cons_append, List.nil_append] at H
     refine k_met ?_
     exact ⟨_, _, _, _, _, _, hcc, rfl, H⟩
    ·refine up_mk rfl ?_
     refine s_mk Value.bool false (m := m) H rfl rfl rfl (by omega) (by omega) (by omega) Try.underlying53 inf4 rfl ?_
     intro bp _ H'; clear H; have H := H'; clear H'
     refine k_nil ?_
     refine t_on H.only ?_
     refine t_up1 2 (by kernel_rfl) ?_
     refine up_mk rfl ?_
     refine s_call rfl (nClone _ _ _ ws _ (fun _ => ⟨_, _, rfl, by simp, (HR.same H.only).reads0 0 rfl⟩) (by omega) (by omega)) (ca79 rfl) ?_
     rintro e W1 ⟨bc, cc, rfl, hcc, H'⟩
     refine ⟨_, rfl, ?_⟩
     have H := H.more H'; clear H'
     refine k_nil ?_
     refine t_on H.only ?_
     refine tqn 10 rfl rfl rfl (fun _ hS => r_bd (bd114_0_1_2_3_4 _ _ _ _ _ _ _ _ _ _ _ _ _ _ _) rfl) H.only ?_
     refine t_up1 11 (by kernel_rfl) ?_
     refine up_mk rfl ?_
     refine s_box H rfl rfl ?_
     intro p18 _ H'; clear H; have H := H'; clear H'
     refine k_nil ?_
     refine t_on H.only ?_
     refine tqn 12 rfl rfl rfl (fun _ hS => r_as (v := .pointer _) rfl) H.only ?_
     refine t_done (by kernel_rfl) ?_
     replace H := H.pick 1 rfl; simp only [jL, jM] at H
     replace H := H.pick 4 rfl; simp only [jL, jM] at H
     replace H := H.pick 4 rfl; simp only [jL, jM] at H
     replace H := H.pick 4 rfl; simp only [jL, jM] at H
     replace H := H.pick 4 rfl; simp only [jL, jM] at H
     have H := HR.more H; clear HR; simp only [List.cons_append, List.nil_append] at H
     refine k_met ?_
     exact ⟨_, _, _, _, _, _, hcc, rfl, H⟩
   ·refine up_mk rfl ?_
    refine s_mk Value.bool false (m := m) H rfl rfl rfl (by omega) (by omega) (by omega) Try.underlying53 inf4 rfl ?_
    intro bp _ H'; clear H; have H := H'; clear H'
    refine k_nil ?_
    refine t_on H.only ?_
    refine t_up2 2 7 (by kernel_rfl) ?_ ?_
    ·refine up_mk rfl ?_
     refine s_call rfl (nClone _ _ _ ws _ (fun _ => ⟨_, _, rfl, by simp, (HR.same H.only).reads0 0 rfl⟩) (by omega) (by omega)) (ca79 rfl) ?_
     rintro e W1 ⟨bc, cc, rfl, hcc, H'⟩
     refine ⟨_, rfl, ?_⟩
     have H := H.more H'; clear H'
     refine k_nil ?_
     refine t_on H.only ?_
     refine t_up1 7 (by kernel_rfl) ?_
     refine up_mk rfl ?_
     refine s_mk Value.bool false (m := m) H rfl rfl rfl (by omega) (by omega) (by omega) Try.underlying53 inf4 rfl ?_
     intro bd _ H'; clear H; have H := H'; clear H'
     refine k_nil ?_
     refine t_on H.only ?_
     refine tqn 10 rfl rfl rfl (fun _ hS => r_bd (bd114_0_1_2_3_4 _ _ _ _ _ _ _ _ _ _ _ _ _ _ _) rfl) H.only ?_
     refine t_up1 11 (by kernel_rfl) ?_
     refine up_mk rfl ?_
     refine s_box H rfl rfl ?_
     intro p18 _ H'; clear H; have H := H'; clear H'
     refine k_nil ?_
     refine t_on H.only ?_
     refine tqn 12 rfl rfl rfl (fun _ hS => r_as (v := .pointer _) rfl) H.only ?_
     refine t_done (by kernel_rfl) ?_
     replace H := H.pick 2 rfl; simp only [jL, jM] at H
     replace H := H.pick 4 rfl; simp only [jL, jM] at H
     replace H := H.pick 3 rfl; simp only [jL, jM] at H
     replace H := H.pick 4 rfl; simp only [jL, jM] at H
     replace H := H.pick 4 rfl; simp only [jL, jM] at H
     have H := HR.more H; clear HR; simp only [List.cons_append, List.nil_append] at H
     refine k_met ?_
     exact ⟨_, _, _, _, _, _, hcc, rfl, H⟩
    ·refine up_mk rfl ?_
     refine s_mk Value.bool false (m := m) H rfl rfl rfl (by omega) (by omega) (by omega) Try.underlying53 inf4 rfl ?_
     intro bd _ H'; clear H; have H := H'; clear H'
     refine k_nil ?_
     refine t_on H.only ?_
     refine t_up1 2 (by kernel_rfl) ?_
     refine up_mk rfl ?_
     refine s_call rfl (nClone _ _ _ ws _ (fun _ => ⟨_, _, rfl, by simp, (HR.same H.only).reads0 0 rfl⟩) (by omega) (by omega)) (ca79 rfl) ?_
     rintro e W1 ⟨bc, cc, rfl, hcc, H'⟩
     refine ⟨_, rfl, ?_⟩
     have H := H.more H'; clear H'
     refine k_nil ?_
     refine t_on H.only ?_
     refine tqn 10 rfl rfl rfl (fun _ hS => r_bd (bd114_0_1_2_3_4 _ _ _ _ _ _ _ _ _ _ _ _ _ _ _) rfl) H.only ?_
     refine t_up1 11 (by kernel_rfl) ?_
     refine up_mk rfl ?_
     refine s_box H rfl rfl ?_
     intro p18 _ H'; clear H; have H := H'; clear H'
     refine k_nil ?_
     refine t_on H.only ?_
     refine tqn 12 rfl rfl rfl (fun _ hS => r_as (v := .pointer _) rfl) H.only ?_
     refine t_done (by kernel_rfl) ?_
     replace H := H.pick 1 rfl; simp only [jL, jM] at H
     replace H := H.pick 4 rfl; simp only [jL, jM] at H
     replace H := H.pick 3 rfl; simp only [jL, jM] at H
     replace H := H.pick 4 rfl; simp only [jL, jM] at H
     replace H := H.pick 4 rfl; simp only [jL, jM] at H
     have H := HR.more H; clear HR; simp only [List.cons_append, List.nil_append] at H
     refine k_met ?_
     exact ⟨_, _, _, _, _, _, hcc, rfl, H⟩
  ·refine up_mk rfl ?_
   refine s_mk Value.bool false (m := m) H rfl rfl rfl (by omega) (by omega) (by omega) Try.underlying53 inf4 rfl ?_
   intro bd _ H'; clear H; have H := H'; clear H'
   refine k_nil ?_
   refine t_on H.only ?_
   refine t_up3 2 5 9 (by kernel_rfl) ?_ ?_ ?_
   ·refine up_mk rfl ?_
    refine s_call rfl (nClone _ _ _ ws _ (fun _ => ⟨_, _, rfl, by simp, (HR.same H.only).reads0 0 rfl⟩) (by omega) (by omega)) (ca79 rfl) ?_
    rintro e W1 ⟨bc, cc, rfl, hcc, H'⟩
    refine ⟨_, rfl, ?_⟩
    have H := H.more H'; clear H'
    refine k_nil ?_
    refine t_on H.only ?_
    refine t_up2 5 9 (by kernel_rfl) ?_ ?_
    ·refine up_mk rfl ?_
     refine s_mk (Value.int .u64) 0 (m := (8 * m)) H rfl rfl rfl (by omega) (by omega) (by omega) Try.underlying25 inf22 rfl ?_
     intro bf _ H'; clear H; have H := H'; clear H'
     refine k_nil ?_
     refine t_on H.only ?_
     refine t_up1 9 (by kernel_rfl) ?_
     refine up_mk rfl ?_
     refine s_mk Value.bool false (m := m) H rfl rfl rfl (by omega) (by omega) (by omega) Try.underlying53 inf4 rfl ?_
     intro bp _ H'; clear H; have H := H'; clear H'
     refine k_nil ?_
     refine t_on H.only ?_
     refine tqn 10 rfl rfl rfl (fun _ hS => r_bd (bd114_0_1_2_3_4 _ _ _ _ _ _ _ _ _ _ _ _ _ _ _) rfl) H.only ?_
     refine t_up1 11 (by kernel_rfl) ?_
     refine up_mk rfl ?_
     refine s_box H rfl rfl ?_
     intro p18 _ H'; clear H; have H := H'; clear H'
     refine k_nil ?_
     refine t_on H.only ?_
     refine tqn 12 rfl rfl rfl (fun _ hS => r_as (v := .pointer _) rfl) H.only ?_
     refine t_done (by kernel_rfl) ?_
     replace H := H.pick 3 rfl; simp only [jL, jM] at H
     replace H := H.pick 3 rfl; simp only [jL, jM] at H
     replace H := H.pick 4 rfl; simp only [jL, jM] at H
     replace H := H.pick 4 rfl; simp only [jL, jM] at H
     replace H := H.pick 4 rfl; simp only [jL, jM] at H
     have H := HR.more H; clear HR; simp only [List.cons_append, List.nil_append] at H
     refine k_met ?_
     exact ⟨_, _, _, _, _, _, hcc, rfl, H⟩
    ·refine up_mk rfl ?_
     refine s_mk Value.bool false (m := m) H rfl rfl rfl (by omega) (by omega) (by omega) Try.underlying53 inf4 rfl ?_
     intro bp _ H'; clear H; have H := H'; clear H'
     refine k_nil ?_
     refine t_on H.only ?_
     refine t_up1 5 (by kernel_rfl) ?_
     refine up_mk rfl ?_
     refine s_mk (Value.int .u64) 0 (m := (8 * m)) H rfl rfl rfl (by omega) (by omega) (by omega) Try.underlying25 inf22 rfl ?_
     intro bf _ H'; clear H; have H := H'; clear H'
     refine k_nil ?_
     refine t_on H.only ?_
     refine tqn 10 rfl rfl rfl (fun _ hS => r_bd (bd114_0_1_2_3_4 _ _ _ _ _ _ _ _ _ _ _ _ _ _ _) rfl) H.only ?_
     refine t_up1 11 (by kernel_rfl) ?_
     refine up_mk rfl ?_
     refine s_box H rfl rfl ?_
     intro p18 _ H'; clear H; have H := H'; clear H'
     refine k_nil ?_
     refine t_on H.only ?_
     refine tqn 12 rfl rfl rfl (fun _ hS => r_as (v := .pointer _) rfl) H.only ?_
     refine t_done (by kernel_rfl) ?_
     replace H := H.pick 3 rfl; simp only [jL, jM] at H
     replace H := H.pick 2 rfl; simp only [jL, jM] at H
     replace H := H.pick 4 rfl; simp only [jL, jM] at H
     replace H := H.pick 4 rfl; simp only [jL, jM] at H
     replace H := H.pick 4 rfl; simp only [jL, jM] at H
     have H := HR.more H; clear HR; simp only [List.cons_append, List.nil_append] at H
     refine k_met ?_
     exact ⟨_, _, _, _, _, _, hcc, rfl, H⟩
   ·refine up_mk rfl ?_
    refine s_mk (Value.int .u64) 0 (m := (8 * m)) H rfl rfl rfl (by omega) (by omega) (by omega) Try.underlying25 inf22 rfl ?_
    intro bf _ H'; clear H; have H := H'; clear H'
    refine k_nil ?_
    refine t_on H.only ?_
    refine t_up2 2 9 (by kernel_rfl) ?_ ?_
    ·refine up_mk rfl ?_
     refine s_call rfl (nClone _ _ _ ws _ (fun _ => ⟨_, _, rfl, by simp, (HR.same H.only).reads0 0 rfl⟩) (by omega) (by omega)) (ca79 rfl) ?_
     rintro e W1 ⟨bc, cc, rfl, hcc, H'⟩
     refine ⟨_, rfl, ?_⟩
     have H := H.more H'; clear H'
     refine k_nil ?_
     refine t_on H.only ?_
     refine t_up1 9 (by kernel_rfl) ?_
     refine up_mk rfl ?_
     refine s_mk Value.bool false (m := m) H rfl rfl rfl (by omega) (by omega) (by omega) Try.underlying53 inf4 rfl ?_
     intro bp _ H'; clear H; have H := H'; clear H'
     refine k_nil ?_
     refine t_on H.only ?_
     refine tqn 10 rfl rfl rfl (fun _ hS => r_bd (bd114_0_1_2_3_4 _ _ _ _ _ _ _ _ _ _ _ _ _ _ _) rfl) H.only ?_
     refine t_up1 11 (by kernel_rfl) ?_
     refine up_mk rfl ?_
     refine s_box H rfl rfl ?_
     intro p18 _ H'; clear H; have H := H'; clear H'
     refine k_nil ?_
     refine t_on H.only ?_
     refine tqn 12 rfl rfl rfl (fun _ hS => r_as (v := .pointer _) rfl) H.only ?_
     refine t_done (by kernel_rfl) ?_
     replace H := H.pick 2 rfl; simp only [jL, jM] at H
     replace H := H.pick 3 rfl; simp only [jL, jM] at H
     replace H := H.pick 4 rfl; simp only [jL, jM] at H
     replace H := H.pick 4 rfl; simp only [jL, jM] at H
     replace H := H.pick 4 rfl; simp only [jL, jM] at H
     have H := HR.more H; clear HR; simp only [List.cons_append, List.nil_append] at H
     refine k_met ?_
     exact ⟨_, _, _, _, _, _, hcc, rfl, H⟩
    ·refine up_mk rfl ?_
     refine s_mk Value.bool false (m := m) H rfl rfl rfl (by omega) (by omega) (by omega) Try.underlying53 inf4 rfl ?_
     intro bp _ H'; clear H; have H := H'; clear H'
     refine k_nil ?_
     refine t_on H.only ?_
     refine t_up1 2 (by kernel_rfl) ?_
     refine up_mk rfl ?_
     refine s_call rfl (nClone _ _ _ ws _ (fun _ => ⟨_, _, rfl, by simp, (HR.same H.only).reads0 0 rfl⟩) (by omega) (by omega)) (ca79 rfl) ?_
     rintro e W1 ⟨bc, cc, rfl, hcc, H'⟩
     refine ⟨_, rfl, ?_⟩
     have H := H.more H'; clear H'
     refine k_nil ?_
     refine t_on H.only ?_
     refine tqn 10 rfl rfl rfl (fun _ hS => r_bd (bd114_0_1_2_3_4 _ _ _ _ _ _ _ _ _ _ _ _ _ _ _) rfl) H.only ?_
     refine t_up1 11 (by kernel_rfl) ?_
     refine up_mk rfl ?_
     refine s_box H rfl rfl ?_
     intro p18 _ H'; clear H; have H := H'; clear H'
     refine k_nil ?_
     refine t_on H.only ?_
     refine tqn 12 rfl rfl rfl (fun _ hS => r_as (v := .pointer _) rfl) H.only ?_
     refine t_done (by kernel_rfl) ?_
     replace H := H.pick 1 rfl; simp only [jL, jM] at H
     replace H := H.pick 3 rfl; simp only [jL, jM] at H
     replace H := H.pick 4 rfl; simp only [jL, jM] at H
     replace H := H.pick 4 rfl; simp only [jL, jM] at H
     replace H := H.pick 4 rfl; simp only [jL, jM] at H
     have H := HR.more H; clear HR; simp only [List.cons_append, List.nil_append] at H
     refine k_met ?_
     exact ⟨_, _, _, _, _, _, hcc, rfl, H⟩
   ·refine up_mk rfl ?_
    refine s_mk Value.bool false (m := m) H rfl rfl rfl (by omega) (by omega) (by omega) Try.underlying53 inf4 rfl ?_
    intro bp _ H'; clear H; have H := H'; clear H'
    refine k_nil ?_
    refine t_on H.only ?_
    refine t_up2 2 5 (by kernel_rfl) ?_ ?_
    ·refine up_mk rfl ?_
     refine s_call rfl (nClone _ _ _ ws _ (fun _ => ⟨_, _, rfl, by simp, (HR.same H.only).reads0 0 rfl⟩) (by omega) (by omega)) (ca79 rfl) ?_
     rintro e W1 ⟨bc, cc, rfl, hcc, H'⟩
     refine ⟨_, rfl, ?_⟩
     have H := H.more H'; clear H'
     refine k_nil ?_
     refine t_on H.only ?_
     refine t_up1 5 (by kernel_rfl) ?_
     refine up_mk rfl ?_
     refine s_mk (Value.int .u64) 0 (m := (8 * m)) H rfl rfl rfl (by omega) (by omega) (by omega) Try.underlying25 inf22 rfl ?_
     intro bf _ H'; clear H; have H := H'; clear H'
     refine k_nil ?_
     refine t_on H.only ?_
     refine tqn 10 rfl rfl rfl (fun _ hS => r_bd (bd114_0_1_2_3_4 _ _ _ _ _ _ _ _ _ _ _ _ _ _ _) rfl) H.only ?_
     refine t_up1 11 (by kernel_rfl) ?_
     refine up_mk rfl ?_
     refine s_box H rfl rfl ?_
     intro p18 _ H'; clear H; have H := H'; clear H'
     refine k_nil ?_
     refine t_on H.only ?_
     refine tqn 12 rfl rfl rfl (fun _ hS => r_as (v := .pointer _) rfl) H.only ?_
     refine t_done (by kernel_rfl) ?_
     replace H := H.pick 2 rfl; simp only [jL, jM] at H
     replace H := H.pick 2 rfl; simp only [jL, jM] at H
     replace H := H.pick 4 rfl; simp only [jL, jM] at H
     replace H := H.pick 4 rfl; simp only [jL, jM] at H
     replace H := H.pick 4 rfl; simp only [jL, jM] at H
     have H := HR.more H; clear HR; simp only [List.cons_append, List.nil_append] at H
     refine k_met ?_
     exact ⟨_, _, _, _, _, _, hcc, rfl, H⟩
    ·refine up_mk rfl ?_
     refine s_mk (Value.int .u64) 0 (m := (8 * m)) H rfl rfl rfl (by omega) (by omega) (by omega) Try.underlying25 inf22 rfl ?_
     intro bf _ H'; clear H; have H := H'; clear H'
     refine k_nil ?_
     refine t_on H.only ?_
     refine t_up1 2 (by kernel_rfl) ?_
     refine up_mk rfl ?_
     refine s_call rfl (nClone _ _ _ ws _ (fun _ => ⟨_, _, rfl, by simp, (HR.same H.only).reads0 0 rfl⟩) (by omega) (by omega)) (ca79 rfl) ?_
     rintro e W1 ⟨bc, cc, rfl, hcc, H'⟩
     refine ⟨_, rfl, ?_⟩
     have H := H.more H'; clear H'
     refine k_nil ?_
     refine t_on H.only ?_
     refine tqn 10 rfl rfl rfl (fun _ hS => r_bd (bd114_0_1_2_3_4 _ _ _ _ _ _ _ _ _ _ _ _ _ _ _) rfl) H.only ?_
     refine t_up1 11 (by kernel_rfl) ?_
     refine up_mk rfl ?_
     refine s_box H rfl rfl ?_
     intro p18 _ H'; clear H; have H := H'; clear H'
     refine k_nil ?_
     refine t_on H.only ?_
     refine tqn 12 rfl rfl rfl (fun _ hS => r_as (v := .pointer _) rfl) H.only ?_
     refine t_done (by kernel_rfl) ?_
     replace H := H.pick 1 rfl; simp only [jL, jM] at H
     replace H := H.pick 2 rfl; simp only [jL, jM] at H
     replace H := H.pick 4 rfl; simp only [jL, jM] at H
     replace H := H.pick 4 rfl; simp only [jL, jM] at H
     replace H := H.pick 4 rfl; simp only [jL, jM] at H
     have H := HR.more H; clear HR; simp only [List.cons_append, List.nil_append] at H
     refine k_met ?_
     exact ⟨_, _, _, _, _, _, hcc, rfl, H⟩
  ·refine up_mk rfl ?_
   refine s_mk Value.bool false (m := m) H rfl rfl rfl (by omega) (by omega) (by omega) Try.underlying53 inf4 rfl ?_
   intro bp _ H'; clear H; have H := H'; clear H'
   refine k_nil ?_
   refine t_on H.only ?_
   refine t_up3 2 5 7 (by kernel_rfl) ?_ ?_ ?_
   ·refine up_mk rfl ?_
    refine s_call rfl (nClone _ _ _ ws _ (fun _ => ⟨_, _, rfl, by simp, (HR.same H.only).reads0 0 rfl⟩) (by omega) (by omega)) (ca79 rfl) ?_
    rintro e W1 ⟨bc, cc, rfl, hcc, H'⟩
    refine ⟨_, rfl, ?_⟩
    have H := H.more H'; clear H'
    refine k_nil ?_
    refine t_on H.only ?_
    refine t_up2 5 7 (by kernel_rfl) ?_ ?_
    ·refine up_mk rfl ?_
     refine s_mk (Value.int .u64) 0 (m := (8 * m)) H rfl rfl rfl (by omega) (by omega) (by omega) Try.underlying25 inf22 rfl ?_
     intro bf _ H'; clear H; have H := H'; clear H'
     refine k_nil ?_
     refine t_on H.only ?_
     refine t_up1 7 (by kernel_rfl) ?_
     refine up_mk rfl ?_
     refine s_mk Value.bool false (m := m) H rfl rfl rfl (by omega) (by omega) (by omega) Try.underlying53 inf4 rfl ?_
     intro bd _ H'; clear H; have H := H'; clear H'
     refine k_nil ?_
     refine t_on H.only ?_
     refine tqn 10 rfl rfl rfl (fun _ hS => r_bd (bd114_0_1_2_3_4 _ _ _ _ _ _ _ _ _ _ _ _ _ _ _) rfl) H.only ?_
     refine t_up1 11 (by kernel_rfl) ?_
     refine up_mk rfl ?_
     refine s_box H rfl rfl ?_
     intro p18 _ H'; clear H; have H := H'; clear H'
     refine k_nil ?_
     refine t_on H.only ?_
     refine tqn 12 rfl rfl rfl (fun _ hS => r_as (v := .pointer _) rfl) H.only ?_
     refine t_done (by kernel_rfl) ?_
     replace H := H.pick 3 rfl; simp only [jL, jM] at H
     replace H := H.pick 3 rfl; simp only [jL, jM] at H
     replace H := H.pick 3 rfl; simp only [jL, jM] at H
     replace H := H.pick 4 rfl; simp only [jL, jM] at H
     replace H := H.pick 4 rfl; simp only [jL, jM] at H
     have H := HR.more H; clear HR; simp only [List.cons_append, List.nil_append] at H
     refine k_met ?_
     exact ⟨_, _, _, _, _, _, hcc, rfl, H⟩
    ·refine up_mk rfl ?_
     refine s_mk Value.bool false (m := m) H rfl rfl rfl (by omega) (by omega) (by omega) Try.underlying53 inf4 rfl ?_
     intro bd _ H'; clear H; have H := H'; clear H'
     refine k_nil ?_
     refine t_on H.only ?_
     refine t_up1 5 (by kernel_rfl) ?_
     refine up_mk rfl ?_
     refine s_mk (Value.int .u64) 0 (m := (8 * m)) H rfl rfl rfl (by omega) (by omega) (by omega) Try.underlying25 inf22 rfl ?_
     intro bf _ H'; clear H; have H := H'; clear H'
     refine k_nil ?_
     refine t_on H.only ?_
     refine tqn 10 rfl rfl rfl (fun _ hS => r_bd (bd114_0_1_2_3_4 _ _ _ _ _ _ _ _ _ _ _ _ _ _ _) rfl) H.only ?_
     refine t_up1 11 (by kernel_rfl) ?_
     refine up_mk rfl ?_
     refine s_box H rfl rfl ?_
     intro p18 _ H'; clear H; have H := H'; clear H'
     refine k_nil ?_
     refine t_on H.only ?_
     refine tqn 12 rfl rfl rfl (fun _ hS => r_as (v := .pointer _) rfl) H.only ?_
     refine t_done (by kernel_rfl) ?_
     replace H := H.pick 3 rfl; simp only [jL, jM] at H
     replace H := H.pick 2 rfl; simp only [jL, jM] at H
     replace H := H.pick 3 rfl; simp only [jL, jM] at H
     replace H := H.pick 4 rfl; simp only [jL, jM] at H
     replace H := H.pick 4 rfl; simp only [jL, jM] at H
     have H := HR.more H; clear HR; simp only [List.cons_append, List.nil_append] at H
     refine k_met ?_
     exact ⟨_, _, _, _, _, _, hcc, rfl, H⟩
   ·refine up_mk rfl ?_
    refine s_mk (Value.int .u64) 0 (m := (8 * m)) H rfl rfl rfl (by omega) (by omega) (by omega) Try.underlying25 inf22 rfl ?_
    intro bf _ H'; clear H; have H := H'; clear H'
    refine k_nil ?_
    refine t_on H.only ?_
    refine t_up2 2 7 (by kernel_rfl) ?_ ?_
    ·refine up_mk rfl ?_
     refine s_call rfl (nClone _ _ _ ws _ (fun _ => ⟨_, _, rfl, by simp, (HR.same H.only).reads0 0 rfl⟩) (by omega) (by omega)) (ca79 rfl) ?_
     rintro e W1 ⟨bc, cc, rfl, hcc, H'⟩
     refine ⟨_, rfl, ?_⟩
     have H := H.more H'; clear H'
     refine k_nil ?_
     refine t_on H.only ?_
     refine t_up1 7 (by kernel_rfl) ?_
     refine up_mk rfl ?_
     refine s_mk Value.bool false (m := m) H rfl rfl rfl (by omega) (by omega) (by omega) Try.underlying53 inf4 rfl ?_
     intro bd _ H'; clear H; have H := H'; clear H'
     refine k_nil ?_
     refine t_on H.only ?_
     refine tqn 10 rfl rfl rfl (fun _ hS => r_bd (bd114_0_1_2_3_4 _ _ _ _ _ _ _ _ _ _ _ _ _ _ _) rfl) H.only ?_
     refine t_up1 11 (by kernel_rfl) ?_
     refine up_mk rfl ?_
     refine s_box H rfl rfl ?_
     intro p18 _ H'; clear H; have H := H'; clear H'
     refine k_nil ?_
     refine t_on H.only ?_
     refine tqn 12 rfl rfl rfl (fun _ hS => r_as (v := .pointer _) rfl) H.only ?_
     refine t_done (by kernel_rfl) ?_
     replace H := H.pick 2 rfl; simp only [jL, jM] at H
     replace H := H.pick 3 rfl; simp only [jL, jM] at H
     replace H := H.pick 3 rfl; simp only [jL, jM] at H
     replace H := H.pick 4 rfl; simp only [jL, jM] at H
     replace H := H.pick 4 rfl; simp only [jL, jM] at H
     have H := HR.more H; clear HR; simp only [List.cons_append, List.nil_append] at H
     refine k_met ?_
     exact ⟨_, _, _, _, _, _, hcc, rfl, H⟩
    ·refine up_mk rfl ?_
     refine s_mk Value.bool false (m := m) H rfl rfl rfl (by omega) (by omega) (by omega) Try.underlying53 inf4 rfl ?_
     intro bd _ H'; clear H; have H := H'; clear H'
     refine k_nil ?_
     refine t_on H.only ?_
     refine t_up1 2 (by kernel_rfl) ?_
     refine up_mk rfl ?_
     refine s_call rfl (nClone _ _ _ ws _ (fun _ => ⟨_, _, rfl, by simp, (HR.same H.only).reads0 0 rfl⟩) (by omega) (by omega)) (ca79 rfl) ?_
     rintro e W1 ⟨bc, cc, rfl, hcc, H'⟩
     refine ⟨_, rfl, ?_⟩
     have H := H.more H'; clear H'
     refine k_nil ?_
     refine t_on H.only ?_
     refine tqn 10 rfl rfl rfl (fun _ hS => r_bd (bd114_0_1_2_3_4 _ _ _ _ _ _ _ _ _ _ _ _ _ _ _) rfl) H.only ?_
     refine t_up1 11 (by kernel_rfl) ?_
     refine up_mk rfl ?_
     refine s_box H rfl rfl ?_
     intro p18 _ H'; clear H; have H := H'; clear H'
     refine k_nil ?_
     refine t_on H.only ?_
     refine tqn 12 rfl rfl rfl (fun _ hS => r_as (v := .pointer _) rfl) H.only ?_
     refine t_done (by kernel_rfl) ?_
     replace H := H.pick 1 rfl; simp only [jL, jM] at H
     replace H := H.pick 3 rfl; simp only [jL, jM] at H
     replace H := H.pick 3 rfl; simp only [jL, jM] at H
     replace H := H.pick 4 rfl; simp only [jL, jM] at H
     replace H := H.pick 4 rfl; simp only [jL, jM] at H
     have H := HR.more H; clear HR; simp only [List.cons_append, List.nil_append] at H
     refine k_met ?_
     exact ⟨_, _, _, _, _, _, hcc, rfl, H⟩
   ·refine up_mk rfl ?_
    refine s_mk Value.bool false (m := m) H rfl rfl rfl (by omega) (by omega) (by omega) Try.underlying53 inf4 rfl ?_
    intro bd _ H'; clear H; have H := H'; clear H'
    refine k_nil ?_
    refine t_on H.only ?_
    refine t_up2 2 5 (by kernel_rfl) ?_ ?_
    ·refine up_mk rfl ?_
     refine s_call rfl (nClone _ _ _ ws _ (fun _ => ⟨_, _, rfl, by simp, (HR.same H.only).reads0 0 rfl⟩) (by omega) (by omega)) (ca79 rfl) ?_
     rintro e W1 ⟨bc, cc, rfl, hcc, H'⟩
     refine ⟨_, rfl, ?_⟩
     have H := H.more H'; clear H'
     refine k_nil ?_
     refine t_on H.only ?_
     refine t_up1 5 (by kernel_rfl) ?_
     refine up_mk rfl ?_
     refine s_mk (Value.int .u64) 0 (m := (8 * m)) H rfl rfl rfl (by omega) (by omega) (by omega) Try.underlying25 inf22 rfl ?_
     intro bf _ H'; clear H; have H := H'; clear H'
     refine k_nil ?_
     refine t_on H.only ?_
     refine tqn 10 rfl rfl rfl (fun _ hS => r_bd (bd114_0_1_2_3_4 _ _ _ _ _ _ _ _ _ _ _ _ _ _ _) rfl) H.only ?_
     refine t_up1 11 (by kernel_rfl) ?_
     refine up_mk rfl ?_
     refine s_box H rfl rfl ?_
     intro p18 _ H'; clear H; have H := H'; clear H'
     refine k_nil ?_
     refine t_on H.only ?_
     refine tqn 12 rfl rfl rfl (fun _ hS => r_as (v := .pointer _) rfl) H.only ?_
     refine t_done (by kernel_rfl) ?_
     replace H := H.pick 2 rfl; simp only [jL, jM] at H
     replace H := H.pick 2 rfl; simp only [jL, jM] at H
     replace H := H.pick 3 rfl; simp only [jL, jM] at H
     replace H := H.pick 4 rfl; simp only [jL, jM] at H
     replace H := H.pick 4 rfl; simp only [jL, jM] at H
     have H := HR.more H; clear HR; simp only [List.cons_append, List.nil_append] at H
     refine k_met ?_
     exact ⟨_, _, _, _, _, _, hcc, rfl, H⟩
    ·refine up_mk rfl ?_
     refine s_mk (Value.int .u64) 0 (m := (8 * m)) H rfl rfl rfl (by omega) (by omega) (by omega) Try.underlying25 inf22 rfl ?_
     intro bf _ H'; clear H; have H := H'; clear H'
     refine k_nil ?_
     refine t_on H.only ?_
     refine t_up1 2 (by kernel_rfl) ?_
     refine up_mk rfl ?_
     refine s_call rfl (nClone _ _ _ ws _ (fun _ => ⟨_, _, rfl, by simp, (HR.same H.only).reads0 0 rfl⟩) (by omega) (by omega)) (ca79 rfl) ?_
     rintro e W1 ⟨bc, cc, rfl, hcc, H'⟩
     refine ⟨_, rfl, ?_⟩
     have H := H.more H'; clear H'
     refine k_nil ?_
     refine t_on H.only ?_
     refine tqn 10 rfl rfl rfl (fun _ hS => r_bd (bd114_0_1_2_3_4 _ _ _ _ _ _ _ _ _ _ _ _ _ _ _) rfl) H.only ?_
     refine t_up1 11 (by kernel_rfl) ?_
     refine up_mk rfl ?_
     refine s_box H rfl rfl ?_
     intro p18 _ H'; clear H; have H := H'; clear H'
     refine k_nil ?_
     refine t_on H.only ?_
     refine tqn 12 rfl rfl rfl (fun _ hS => r_as (v := .pointer _) rfl) H.only ?_
     refine t_done (by kernel_rfl) ?_
     replace H := H.pick 1 rfl; simp only [jL, jM] at H
     replace H := H.pick 2 rfl; simp only [jL, jM] at H
     replace H := H.pick 3 rfl; simp only [jL, jM] at H
     replace H := H.pick 4 rfl; simp only [jL, jM] at H
     replace H := H.pick 4 rfl; simp only [jL, jM] at H
     have H := HR.more H; clear HR; simp only [List.cons_append, List.nil_append] at H
     refine k_met ?_
     exact ⟨_, _, _, _, _, _, hcc, rfl, H⟩
 clear H
 rintro f' W ⟨p, bc, cc, bf, bd, bp, hcc, h2, H⟩
 obtain ⟨f', rfl⟩ := live1 h2
 refine c_norm ?_
 refine k_ret ?_
 refine fin1r (v := .pointer _) rfl rfl ?_
 refine ⟨⟨p, b, bc, bf, bd, bp, c, cc, 8 * m, m, m⟩, rfl, ⟨hc, hcc, by simp; omega, by simp; omega, by simp; omega⟩, ?_⟩
 unfold devL devCells Nv.load
 simp only [hl, List.length_replicate]
 refine H.perm ?_
 refine List.Perm.cons _ ?_
 exact (List.reverse_perm [vec (Value.int .u64) b ws 22, vec (Value.int .u64) bc ws 22, vec (Value.int .u64) bf (List.replicate (8 * m) 0) 22, vec Value.bool bd (List.replicate m false) 4, vec Value.bool bp (List.replicate m false) 4])
theorem nUp (n : Int) (w : World) (h : -9223372036854775808 ≤ n ∧ n ≤ 9223372036854775807) :
  Calls Try.prog 64 [.int .i64 n, .int .i64 8].toArray w fun e w' => e = .returned (.int .i64 (((n.toNat + 7) / 8 : Nat) : Int)) ∧ Only [] w w' := by
 have H := Heap.nil w
 by_cases h0 : n ≤ 0
 ·refine k_in (N := 16) Try.func64 rfl rfl rfl ?_
  refine k_sg ?_
  refine s_run rfl rfl (rai rfl) ?_
  refine k_nc ?_
  refine k_seq ?_
  refine k_sg ?_
  refine s_run rfl rfl (rmi rfl) ?_
  refine s_run rfl rfl (r_leqT rfl rfl (by omega)) ?_
  refine s_run rfl rfl (rmb rfl) ?_
  refine s_off rfl (g_off 7 (by kernel_rfl) rfl rfl) ?_
  refine s_off rfl (g_off 7 (by kernel_rfl) rfl rfl) ?_
  refine s_run rfl rfl (r_pkT (v := .bool _) rfl rfl) ?_
  refine k_nc ?_
  refine k_t rfl ?_
  refine k_sg ?_
  refine s_run rfl rfl (rai rfl) ?_
  refine k_nc ?_
  refine k_ret ?_
  refine c_ret ?_
  refine fin1r (v := .int _ _) rfl rfl ?_
  exact ⟨by rw [show ((n.toNat + 7) / 8 : Nat) = 0 from by omega]; rfl, H.only⟩
 ·refine k_in (N := 16) Try.func64 rfl rfl rfl ?_
  refine k_sg ?_
  refine s_run rfl rfl (rai rfl) ?_
  refine k_nc ?_
  refine k_seq ?_
  refine k_sg ?_
  refine s_run rfl rfl (rmi rfl) ?_
  refine s_run rfl rfl (r_leqF rfl rfl (by omega)) ?_
  refine s_run rfl rfl (rmb rfl) ?_
  refine s_run rfl (g_on 7 (by kernel_rfl) rfl) (rmi rfl) ?_
  refine s_run rfl (g_on 7 (by kernel_rfl) rfl) (r_leqF rfl rfl (by omega)) ?_
  refine s_run rfl rfl (r_pkF (v := .bool _) rfl rfl) ?_
  refine k_nc ?_
  refine k_f rfl ?_
  refine k_skip ?_
  refine c_norm ?_
  refine k_sg ?_
  refine s_run rfl rfl (rmi rfl) ?_
  refine s_run rfl rfl (r_sub rfl rfl (wI (by omega))) ?_
  refine s_run rfl rfl (rmi rfl) ?_
  refine s_run rfl rfl (r_quo rfl rfl (by omega) (wI (by omega))) ?_
  refine s_run rfl rfl (r_add rfl rfl (wI (by omega))) ?_
  refine s_run rfl rfl (rai rfl) ?_
  refine k_nc ?_
  refine k_ret ?_
  refine fin1r (v := .int _ _) rfl rfl ?_
  exact ⟨ret_int (by omega), H.only⟩
theorem nAll (g : Geo) (d : Nv.D) (m : Nat) (w : World) (hE : Ents (devL g d) w) (ho : Nv.Ok d m) (hm : m ≤ 100000) :
  Calls Try.prog 47 [ptr g.p].toArray w fun e w' => ∃ b c', e = .returned (.slice (some ⟨b, 0, none⟩) (8 * m) c') ∧ (8 * m ≤ c' ∧ c' ≤ 9223372036854775807) ∧ Heap w [] [vec (Value.int .u64) b d.last 22] w' := by
 have HR := Heap.start hE
 have H := Heap.nil w
 have hl := ho.hl
 generalize hF : ids (devL g d) = F at HR
 unfold devL devCells at HR
 rw [hl] at HR
 refine k_in (N := 8) Try.func47 rfl rfl rfl ?_
 refine k_sg ?_
 refine s_run rfl rfl (ras rfl) ?_
 refine k_nc ?_
 refine k_sg ?_
 refine s_run rfl rfl (rmp rfl) ?_
 refine s_run rfl rfl (r_nc rfl) ?_
 refine s_run rfl rfl (r_fa0 rfl fo114_0) ?_
 refine s_run rfl rfl (r_lo (HR.same H.only) 0 rfl rfl rfl ag25) ?_
 refine s_call rfl (nClone _ _ _ d.last _ (fun _ => ⟨_, _, rfl, by simp, HR.reads0 1 rfl⟩) (by omega) (by omega)) (ca79 rfl) ?_
 rintro e W1 ⟨b, c', rfl, hc, H'⟩
 refine ⟨_, rfl, ?_⟩
 have H := H.more H'; clear H'
 refine s_run rfl rfl (ras rfl) ?_
 refine k_nc ?_
 refine k_ret ?_
 refine fin1r (v := .slice _ _ _) rfl rfl ?_
 exact ⟨b, c', rfl, hc, H⟩
theorem nNew (n : Int) (w : World) (h : -9223372036854775808 ≤ n ∧ n ≤ 500000) :
  Calls Try.prog 21 [.int .i64 n].toArray w fun e w' => ∃ g, e = .returned (ptr g.p) ∧ GOk g ((n.toNat + 7) / 8) ∧ Heap w [] (devL g (Nv.load (List.replicate (8 * ((n.toNat + 7) / 8)) 0) ((n.toNat + 7) / 8))) w' := by
 have H := Heap.nil w
 have hq : (n.toNat + 7) / 8 ≤ 100000 := by omega
 have hU := nUp n w (by omega)
 generalize (n.toNat + 7) / 8 = m at hq hU ⊢
 refine k_in (N := 10) Try.func21 rfl rfl rfl ?_
 refine k_sg ?_
 refine s_run rfl rfl (rap rfl) ?_
 refine k_nc ?_
 refine k_sg ?_
 refine s_run rfl rfl (rmi rfl) ?_
 refine s_call rfl (hU) (ca64 rfl) ?_
 rintro e W1 ⟨rfl, H'⟩
 refine ⟨_, rfl, ?_⟩
 have H := H.same H'; clear H'
 refine s_run rfl rfl (rai rfl) ?_
 refine k_nc ?_
 refine k_sg ?_
 refine s_run rfl rfl (rmi rfl) ?_
 refine s_run rfl rfl (r_mul rfl rfl (wI (by omega))) ?_
 refine s_mk (Value.int .u64) 0 (m := (8 * m)) H rfl rfl rfl (by omega) (by omega) (by omega) Try.underlying25 inf22 rfl ?_
 intro b _ H'; clear H; have H := H'; clear H'
 refine s_call rfl (nload b (8 * m) m _ _ H.ents (by simp) hq (by omega)) (ca65 rfl) ?_
 rintro e W1 ⟨g, rfl, hg, H'⟩
 refine ⟨_, rfl, ?_⟩
 have H := H.whole H'; clear H'
 refine s_run rfl rfl (rap rfl) ?_
 refine k_nc ?_
 refine k_ret ?_
 refine fin1r (v := .pointer _) rfl rfl ?_
 exact ⟨g, rfl, hg, H⟩
theorem nLoad (A : Option Addr) (n c : Nat) (zs : List Int) (w : World) (hz : Sees (Value.int .u64) w [] A zs) (hl : zs.length = n) (hn : n ≤ 500000) :
  Calls Try.prog 16 [.slice A n c].toArray w fun e w' => ∃ g, e = .returned (ptr g.p) ∧ GOk g ((n + 7) / 8) ∧ Heap w [] (devL g (Nv.load (zs ++ List.replicate (8 * ((n + 7) / 8) - n) 0) ((n + 7) / 8))) w' := by
 have H := Heap.nil w
 have hq : (n + 7) / 8 ≤ 100000 ∧ n ≤ 8 * ((n + 7) / 8) := by omega
 have hU := nUp n w (by omega)
 rw [Int.toNat_natCast] at hU
 generalize (n + 7) / 8 = m at hq hU ⊢
 refine k_in (N := 14) Try.func16 rfl rfl rfl ?_
 refine k_sg ?_
 refine s_run rfl rfl (rap rfl) ?_
 refine k_nc ?_
 refine k_sg ?_
 refine s_run rfl rfl (rms rfl) ?_
 refine s_run rfl rfl (r_len rfl Try.underlying25) ?_
 refine s_call rfl (hU) (ca64 rfl) ?_
 rintro e W1 ⟨rfl, H'⟩
 refine ⟨_, rfl, ?_⟩
 have H := H.same H'; clear H'
 refine s_run rfl rfl (r_mul rfl rfl (wI (by omega))) ?_
 refine s_mk (Value.int .u64) 0 (m := (8 * m)) H rfl rfl rfl (by omega) (by omega) (by omega) Try.underlying25 inf22 rfl ?_
 intro b _ H'; clear H; have H := H'; clear H'
 refine s_run rfl rfl (ras rfl) ?_
 refine k_nc ?_
 refine k_sg ?_
 refine s_run rfl rfl (rms rfl) ?_
 refine s_run rfl rfl (rms rfl) ?_
 refine s_cpr (enc := (Value.int .u64)) H 0 rfl rfl rfl rfl (hz) (hl) (fun _ => rfl) (by first | omega | (simp; omega)) Try.underlying25 inf22 ?_
 clear H; intro _ H; simp only [jA, jB, jC, jD, jE, jF, jG, jH, jI, jJ, jK, Nat.reduceAdd] at H
 refine k_nc ?_
 refine k_sg ?_
 refine s_run rfl rfl (rms rfl) ?_
 refine s_call rfl (nload b (8 * m) m _ _ H.ents (by simp; omega) hq.1 (by omega)) (ca65 rfl) ?_
 rintro e W1 ⟨g, rfl, hg, H'⟩
 refine ⟨_, rfl, ?_⟩
 have H := H.whole H'; clear H'
 refine s_run rfl rfl (rap rfl) ?_
 refine k_nc ?_
 refine k_ret ?_
 refine fin1r (v := .pointer _) rfl rfl ?_
 refine ⟨g, rfl, hg, ?_⟩
 rw [List.drop_replicate] at H
 exact H
end Go.Proofs.Ytmekhdclnhhhbaa
end

section
namespace Go.Proofs.Ytmekhdclnhhhbaa
open Go.RowKit
theorem dirtyTo_len (l : List Bool) : ∀ k, (Nv.dirtyTo l k).length ≤ k
 | 0 => by simp [Nv.dirtyTo]
 | k + 1 => by
  have := dirtyTo_len l k
  unfold Nv.dirtyTo; split
  ·simp; omega
  ·omega
theorem nDirty (g : Geo) (d : Nv.D) (m : Nat) (w : World) (hE : Ents (devL g d) w) (ho : Nv.Ok d m) (hm : m ≤ 100000) :
  Calls Try.prog 27 [ptr g.p].toArray w fun e w' => ∃ A c, e = .returned (.slice A (Nv.dirtyTo d.dirty m).length c) ∧ Heap w [] [ownN 1 (.slice A (Nv.dirtyTo d.dirty m).length c) (Nv.dirtyTo d.dirty m).length ((Nv.dirtyTo d.dirty m).map (Value.int .i64)) 3] w' := by
 have HR := Heap.start hE
 have H := Heap.nil w
 have hd := ho.hd
 generalize hF : ids (devL g d) = F at HR
 unfold devL devCells at HR
 rw [hd] at HR
 refine k_in (N := 23) Try.func27 rfl rfl rfl ?_
 refine k_sg ?_
 refine s_run rfl rfl (ras rfl) ?_
 refine k_nc ?_
 refine k_sg ?_
 refine s_run rfl rfl (ras rfl) ?_
 refine k_nc ?_
 refine k_seq ?_
 refine k_sg ?_
 refine s_run rfl rfl (rmp rfl) ?_
 refine s_run rfl rfl (r_nc rfl) ?_
 refine s_run rfl rfl (r_fa0 rfl fo114_3) ?_
 refine s_run rfl rfl (r_lo (HR.same H.only) 0 rfl rfl rfl ag53) ?_
 refine s_run rfl rfl (r_len rfl Try.underlying53) ?_
 refine s_run rfl rfl (rmi rfl) ?_
 refine k_nc ?_
 refine k_b ?_
 refine k_loop (fun q f W => ∃ (k : Nat) (A : Option Addr) (c : Nat), k ≤ m ∧ q = m - k ∧ f 3 = .slice A (Nv.dirtyTo d.dirty k).length c ∧ f 9 = .slice (some ⟨g.bd, 0, none⟩) m g.cd ∧ f 10 = .int .i64 m ∧ f 11 = .int .i64 k ∧ Heap w [] [ownN 1 (.slice A (Nv.dirtyTo d.dirty k).length c) (Nv.dirtyTo d.dirty k).length ((Nv.dirtyTo d.dirty k).map (Value.int .i64)) 3] W) m ⟨0, none, 0, by omega, rfl, rfl, rfl, rfl, rfl, H.own_nil 1 3⟩ ?_
 clear H
 rintro q f W ⟨k, A, c, hk, rfl, h3, h9, h10, h11, H⟩
 obtain ⟨f, rfl⟩ := live4 h3 h9 h10 h11
 clear h3 h9 h10 h11
 have hlen := dirtyTo_len d.dirty k
 by_cases hlt : k < m
 ·by_cases hv : d.dirty.getD k false = true
  ·have e : Nv.dirtyTo d.dirty (k + 1) = Nv.dirtyTo d.dirty k ++ [(k : Int)] := by rw [Nv.dirtyTo, if_pos hv]
   have el : (Nv.dirtyTo d.dirty (k + 1)).length = (Nv.dirtyTo d.dirty k).length + 1 := by rw [e]; simp
   have hv' : d.dirty[k]? = some true := by rw [getE (by omega)]; exact congrArg some hv
   refine k_sg ?_
   refine s_run rfl rfl (r_lssT rfl rfl (by omega)) ?_
   refine k_nc ?_
   refine k_seq ?_
   refine k_t rfl ?_
   refine k_skip ?_
   refine c_norm ?_
   refine k_seq ?_
   refine k_b ?_
   refine k_sg ?_
   refine s_run rfl rfl (rmi rfl) ?_
   refine s_run rfl rfl (r_ix1 rfl rfl rfl (by omega) Try.underlying53 sz4) ?_
   refine s_run rfl rfl (r_lv (HR.same H.only) 4 rfl rfl (by assumption) ag4) ?_
   refine s_run rfl rfl (rai rfl) ?_
   refine s_run rfl rfl (rab rfl) ?_
   refine k_nc ?_
   refine k_sg ?_
   refine s_run rfl rfl (rmb rfl) ?_
   refine k_nc ?_
   refine k_t rfl ?_
   refine k_rg ?_
   refine s_run rfl rfl (rms rfl) ?_
   refine s_run rfl rfl (rmi rfl) ?_
   refine s_app1 (enc := (Value.int .i64)) H 0 rfl rfl rfl rfl rfl rfl rfl (by omega) Try.underlying42 inf3 rfl ?_
   intro _ An cn _ H'; simp only [List.set_cons_zero, List.set_cons_succ, List.take_succ_cons, List.take_zero, List.drop_succ_cons, List.drop_zero, List.cons_append, List.nil_append, List.append_nil, List.length_cons, List.length_nil, Nat.reduceAdd] at H'; clear H; have H := H'; clear H'
   refine s_run rfl rfl (ras rfl) ?_
   refine k_nil ?_
   refine b_norm ?_
   refine c_norm ?_
   refine k_rg ?_
   refine s_run rfl rfl (r_add rfl rfl (wI (by omega))) ?_
   refine s_run rfl rfl (rmi rfl) ?_
   refine k_nil ?_
   refine c_round ?_
   rw [← e, ← el] at H
   refine ⟨_, _, ?_, rfl, k + 1, _, _, by omega, rfl, ?_, rfl, rfl, rfl, H⟩
   ·omega
   ·rw [el]; rfl
  ·have e : Nv.dirtyTo d.dirty (k + 1) = Nv.dirtyTo d.dirty k := by rw [Nv.dirtyTo, if_neg hv]
   have hv' : d.dirty[k]? = some false := by rw [getE (by omega)]; exact congrArg some (by simpa using hv)
   refine k_sg ?_
   refine s_run rfl rfl (r_lssT rfl rfl (by omega)) ?_
   refine k_nc ?_
   refine k_seq ?_
   refine k_t rfl ?_
   refine k_skip ?_
   refine c_norm ?_
   refine k_seq ?_
   refine k_b ?_
   refine k_sg ?_
   refine s_run rfl rfl (rmi rfl) ?_
   refine s_run rfl rfl (r_ix1 rfl rfl rfl (by omega) Try.underlying53 sz4) ?_
   refine s_run rfl rfl (r_lv (HR.same H.only) 4 rfl rfl (by assumption) ag4) ?_
   refine s_run rfl rfl (rai rfl) ?_
   refine s_run rfl rfl (rab rfl) ?_
   refine k_nc ?_
   refine k_sg ?_
   refine s_run rfl rfl (rmb rfl) ?_
   refine k_nc ?_
   refine k_f rfl ?_
   refine k_skip ?_
   refine b_norm ?_
   refine c_norm ?_
   refine k_rg ?_
   refine s_run rfl rfl (r_add rfl rfl (wI (by omega))) ?_
   refine s_run rfl rfl (rmi rfl) ?_
   refine k_nil ?_
   refine c_round ?_
   rw [← e] at H
   refine ⟨_, _, ?_, rfl, k + 1, A, c, by omega, rfl, ?_, rfl, rfl, rfl, H⟩
   ·omega
   ·rw [e]; rfl
 ·obtain rfl : k = m := by omega
  refine k_sg ?_
  refine s_run rfl rfl (r_lssF rfl rfl (by omega)) ?_
  refine k_nc ?_
  refine k_seq ?_
  refine k_f rfl ?_
  refine k_exit ?_
  refine c_exit ?_
  refine c_exit ?_
  refine b_hit ?_
  refine c_norm ?_
  refine k_sg ?_
  refine s_run rfl rfl (rms rfl) ?_
  refine s_run rfl rfl (ras rfl) ?_
  refine k_nc ?_
  refine k_ret ?_
  refine fin1r (v := .slice _ _ _) rfl rfl ?_
  exact ⟨A, c, rfl, H⟩
theorem nFence (g : Geo) (d : Nv.D) (m : Nat) (w : World) (hE : Ents (devL g d) w) (ho : Nv.Ok d m) (hg : GOk g m) (hm : m ≤ 100000) :
  Calls Try.prog 35 [ptr g.p].toArray w fun e w' => e = .returned (.int .i64 (Nv.fence d m).2) ∧ Heap w (ids (devL g d)) (devL g (Nv.fence d m).1) w' := by
 have H0 := Heap.start hE
 by_cases hs : Nv.stops d = true
 ·have er : Nv.fence d m = (Nv.killed d, 3) := by rw [Nv.fence, if_pos hs]
  rw [er]
  generalize hF : ids (devL g d) = F at H0 ⊢
  have H := H0
  refine k_in (N := 63) Try.func35 rfl rfl rfl ?_
  refine k_sg ?_
  refine s_run rfl rfl (rai rfl) ?_
  refine k_nc ?_
  refine k_seq ?_
  refine k_sg ?_
  refine s_run rfl rfl (rmp rfl) ?_
  refine s_call rfl (nStep_no g d _ H0.ents hs) (ca70 rfl) ?_
  rintro e W1 ⟨rfl, H'⟩
  refine ⟨_, rfl, ?_⟩
  have H := H0.whole H'
  refine s_run rfl rfl (r_notF rfl) ?_
  refine k_nc ?_
  refine k_t rfl ?_
  refine k_sg ?_
  refine s_run rfl rfl (rai rfl) ?_
  refine k_nc ?_
  refine k_ret ?_
  refine c_ret ?_
  refine fin1r (v := .int _ _) rfl rfl ?_
  exact ⟨rfl, H⟩
 ·have hs : Nv.stops d = false := by simpa using hs
  have er : Nv.fence d m = (Nv.fenceTo (Nv.stepped d) m, 0) := by rw [Nv.fence, if_neg (by simp [hs])]
  rw [er]
  have ho1 := ho.stepped
  generalize hF : ids (devL g d) = F at H0 ⊢
  have H := H0
  have hp1 := ho1.hp
  refine k_in (N := 63) Try.func35 rfl rfl rfl ?_
  refine k_sg ?_
  refine s_run rfl rfl (rai rfl) ?_
  refine k_nc ?_
  refine k_seq ?_
  refine k_sg ?_
  refine s_run rfl rfl (rmp rfl) ?_
  refine s_call rfl (nStep_yes g d _ H0.ents hs) (ca70 rfl) ?_
  rintro e W1 ⟨rfl, H'⟩
  refine ⟨_, rfl, ?_⟩
  clear H; have H := H0.whole H'; clear H'; have HD := H; unfold devL devCells at H
  refine s_run rfl rfl (r_notT rfl) ?_
  refine k_nc ?_
  refine k_f rfl ?_
  refine k_skip ?_
  refine c_norm ?_
  refine k_seq ?_
  refine k_sg ?_
  refine s_run rfl rfl (rmp rfl) ?_
  refine s_run rfl rfl (r_nc rfl) ?_
  refine s_run rfl rfl (r_fa0 rfl fo114_4) ?_
  refine s_run rfl rfl (r_lo H 0 rfl rfl rfl ag53) ?_
  refine s_run rfl rfl (r_len rfl Try.underlying53) ?_
  refine s_run rfl rfl (rmi rfl) ?_
  refine k_nc ?_
  refine k_b ?_
  clear H
  refine k_loop (fun q f W => ∃ (k : Nat), k ≤ m ∧ q = m - k ∧ f 0 = ptr g.p ∧ f 11 = .slice (some ⟨g.bp, 0, none⟩) m g.cp ∧ f 12 = .int .i64 m ∧ f 13 = .int .i64 k ∧ Heap w F (devL g (Nv.fenceTo (Nv.stepped d) k)) W) m ⟨0, by omega, rfl, rfl, by rw [← hp1]; rfl, by rw [← hp1]; rfl, rfl, HD⟩ ?_
  clear HD
  rintro q f W ⟨k, hk, rfl, h0, h11, h12, h13, H⟩
  obtain ⟨f, rfl⟩ := live4 h0 h11 h12 h13
  clear h0 h11 h12 h13
  have hok := ho1.fenceTo k hk
  by_cases hlt : k < m
  ·have e : Nv.fenceTo (Nv.stepped d) (k + 1) = Nv.fenceLine (Nv.fenceTo (Nv.stepped d) k) k := rfl
   generalize Nv.fenceTo (Nv.stepped d) k = x at hok H e
   have hl := hok.hl
   have hc := hok.hc
   have hf := hok.hf
   have hd := hok.hd
   have hp := hok.hp
   have hgl := hg.l
   have hgc := hg.c
   have hgf := hg.f
   by_cases hv : x.pend.getD k false = true
   ·have hv' : x.pend[k]? = some true := by rw [getE (by omega)]; exact congrArg some hv
    have er : Nv.fenceLine x k = { x with last := Nv.setPart x.last k (Nv.part x.fl k), pend := x.pend.set k false, dirty := x.dirty.set k (!Nv.same (Nv.part x.fl k) (Nv.part x.cache k)) } := by rw [Nv.fenceLine, if_pos hv]
    have es : Nv.setPart x.last k (Nv.part x.fl k) = x.last.take (8 * k) ++ ((x.fl.drop (8 * k)).take 8 ++ x.last.drop (8 * k + 8)) := by simp [Nv.setPart, Nv.part]
    have hl2 : (Nv.setPart x.last k (Nv.part x.fl k)).length = x.last.length := Nv.length_setPart (by omega) (Nv.length_part (by omega))
    have ep : ((Nv.setPart x.last k (Nv.part x.fl k)).drop (8 * k)).take 8 = Nv.part x.fl k := by
     unfold Nv.setPart
     rw [List.append_assoc, List.drop_append, List.drop_of_length_le (by simp; exact Nat.min_le_left _ _), List.nil_append, show 8 * k - (x.last.take (8 * k)).length = 0 from by simp; omega, List.drop_zero, List.take_append, List.take_of_length_le (by rw [Nv.length_part (by omega)]; omega), Nv.length_part (by omega), Nat.sub_self, List.take_zero, List.append_nil]
    unfold devL devCells at H
    refine k_sg ?_
    refine s_run rfl rfl (r_lssT rfl rfl (by omega)) ?_
    refine k_nc ?_
    refine k_seq ?_
    refine k_t rfl ?_
    refine k_skip ?_
    refine c_norm ?_
    refine k_seq ?_
    refine k_b ?_
    refine k_sg ?_
    refine s_run rfl rfl (rmi rfl) ?_
    refine s_run rfl rfl (r_ix1 rfl rfl rfl (by omega) Try.underlying53 sz4) ?_
    refine s_run rfl rfl (r_lv H 5 rfl rfl (by assumption) ag4) ?_
    refine s_run rfl rfl (rai rfl) ?_
    refine s_run rfl rfl (rab rfl) ?_
    refine k_nc ?_
    refine k_sg ?_
    refine s_run rfl rfl (rmb rfl) ?_
    refine k_nc ?_
    refine k_t rfl ?_
    refine k_seq ?_
    refine k_qt 14 mixed (by kernel_rfl) H rfl rfl ?_
    refine q_run rfl rfl (fun _ H => r_mv (v := .pointer _) rfl) ?_
    refine q_run rfl rfl (fun _ H => r_mv (v := .pointer _) rfl) ?_
    refine q_run rfl rfl (fun _ H => r_nc rfl) ?_
    refine q_run rfl rfl (fun _ H => r_fa0 rfl fo114_0) ?_
    refine q_run rfl rfl (fun _ H => r_lo H 0 rfl rfl rfl ag25) ?_
    refine q_run rfl rfl (fun _ H => r_mv (v := .int _ _) rfl) ?_
    refine q_call rfl rfl (fun _ H => nPart g.bl g.cl k _ _ _ (by omega)) (ca77 rfl) ?_
    refine q_run rfl rfl (fun _ H => r_mv (v := .pointer _) rfl) ?_
    refine q_run rfl rfl (fun _ H => r_mv (v := .pointer _) rfl) ?_
    refine q_run rfl rfl (fun _ H => r_nc rfl) ?_
    refine q_run rfl rfl (fun _ H => r_fa0 rfl fo114_2) ?_
    refine q_run rfl rfl (fun _ H => r_lo H 0 rfl rfl rfl ag25) ?_
    refine q_run rfl rfl (fun _ H => r_mv (v := .int _ _) rfl) ?_
    refine q_call rfl rfl (fun _ H => nPart g.bf g.cf k _ _ _ (by omega)) (ca77 rfl) ?_
    refine q_nil ?_
    intro _ H'; clear H; have H := H'; clear H'
    refine s_cp (enc := (Value.int .u64)) H 1 3 rfl rfl rfl rfl rfl (fun _ => rfl) (by omega) Try.underlying25 inf22 ?_
    clear H; intro _ H; simp only [jA, jB, jC, jD, jE, jF, jG, jH, jI, jJ, jK, Nat.reduceAdd] at H
    refine k_nc ?_
    refine k_sg ?_
    refine s_run rfl rfl (rmp rfl) ?_
    refine s_run rfl rfl (r_nc rfl) ?_
    refine s_run rfl rfl (r_fa0 rfl fo114_4) ?_
    refine s_run rfl rfl (r_lo H 0 rfl rfl rfl ag53) ?_
    refine s_run rfl rfl (rmi rfl) ?_
    refine s_run rfl rfl (r_ix1 rfl rfl rfl (by omega) Try.underlying53 sz4) ?_
    refine s_sv (u := .bool _) H 5 rfl rfl rfl rfl rfl (by omega) (fun _ => rfl) sz4 ?_
    clear H; intro _ H; simp only [jA, jB, jC, jD, jE, jF, jG, jH, jI, jJ, jK, Nat.reduceAdd] at H
    refine k_nc ?_
    rw [← es] at H
    refine k_qt 21 mixed (by kernel_rfl) H rfl rfl ?_
    refine q_run rfl rfl (fun _ H => r_mv (v := .pointer _) rfl) ?_
    refine q_run rfl rfl (fun _ H => r_nc rfl) ?_
    refine q_run rfl rfl (fun _ H => r_fa0 rfl fo114_3) ?_
    refine q_run rfl rfl (fun _ H => r_lo H 0 rfl rfl rfl ag53) ?_
    refine q_run rfl rfl (fun _ H => r_mv (v := .int _ _) rfl) ?_
    refine q_run rfl rfl (fun _ H => r_mv (v := .pointer _) rfl) ?_
    refine q_run rfl rfl (fun _ H => r_mv (v := .pointer _) rfl) ?_
    refine q_run rfl rfl (fun _ H => r_nc rfl) ?_
    refine q_run rfl rfl (fun _ H => r_fa0 rfl fo114_0) ?_
    refine q_run rfl rfl (fun _ H => r_lo H 0 rfl rfl rfl ag25) ?_
    refine q_run rfl rfl (fun _ H => r_mv (v := .int _ _) rfl) ?_
    refine q_call rfl rfl (fun _ H => nPart g.bl g.cl k _ _ _ (by omega)) (ca77 rfl) ?_
    refine q_run rfl rfl (fun _ H => r_mv (v := .pointer _) rfl) ?_
    refine q_run rfl rfl (fun _ H => r_mv (v := .pointer _) rfl) ?_
    refine q_run rfl rfl (fun _ H => r_nc rfl) ?_
    refine q_run rfl rfl (fun _ H => r_fa0 rfl fo114_1) ?_
    refine q_run rfl rfl (fun _ H => r_lo H 0 rfl rfl rfl ag25) ?_
    refine q_run rfl rfl (fun _ H => r_mv (v := .int _ _) rfl) ?_
    refine q_call rfl rfl (fun _ H => nPart g.bc g.cc k _ _ _ (by omega)) (ca77 rfl) ?_
    refine q_call rfl rfl (fun _ H => nEqual _ _ _ _ _ _ 8 _ _ _ (by have := H.reads 1 rfl (8 * k) 8; rw [ep] at this; exact this) (H.reads 2 rfl (8 * k) 8) (Nv.length_part (by omega)) (Nv.length_part (by omega)) (by omega)) (ca78 rfl) ?_
    refine q_run rfl rfl (fun _ H => r_not rfl) ?_
    refine q_nil ?_
    intro _ H'; clear H; have H := H'; clear H'
    refine s_run rfl rfl (r_ix1 rfl rfl rfl (by omega) Try.underlying53 sz4) ?_
    refine s_sv (u := .bool _) H 4 rfl rfl rfl rfl rfl (by omega) (fun _ => rfl) sz4 ?_
    clear H; intro _ H; simp only [jA, jB, jC, jD, jE, jF, jG, jH, jI, jJ, jK, Nat.reduceAdd] at H
    refine k_nil ?_
    refine b_norm ?_
    refine c_norm ?_
    refine k_rg ?_
    refine s_run rfl rfl (r_add rfl rfl (wI (by omega))) ?_
    refine s_run rfl rfl (rmi rfl) ?_
    refine k_nil ?_
    refine c_round ?_
    refine ⟨_, _, ?_, rfl, k + 1, by omega, rfl, rfl, rfl, rfl, rfl, ?_⟩
    ·omega
    ·rw [e, er]
     unfold devL devCells
     simp only [hl2, List.length_set]
     simpa [Nv.part] using H
   ·have hv' : x.pend[k]? = some false := by rw [getE (by omega)]; exact congrArg some (by simpa using hv)
    have er : Nv.fenceLine x k = x := by rw [Nv.fenceLine, if_neg hv]
    have H2 := H
    unfold devL devCells at H
    refine k_sg ?_
    refine s_run rfl rfl (r_lssT rfl rfl (by omega)) ?_
    refine k_nc ?_
    refine k_seq ?_
    refine k_t rfl ?_
    refine k_skip ?_
    refine c_norm ?_
    refine k_seq ?_
    refine k_b ?_
    refine k_sg ?_
    refine s_run rfl rfl (rmi rfl) ?_
    refine s_run rfl rfl (r_ix1 rfl rfl rfl (by omega) Try.underlying53 sz4) ?_
    refine s_run rfl rfl (r_lv H 5 rfl rfl (by assumption) ag4) ?_
    refine s_run rfl rfl (rai rfl) ?_
    refine s_run rfl rfl (rab rfl) ?_
    refine k_nc ?_
    refine k_sg ?_
    refine s_run rfl rfl (rmb rfl) ?_
    refine k_nc ?_
    refine k_f rfl ?_
    refine k_skip ?_
    refine b_norm ?_
    refine c_norm ?_
    refine k_rg ?_
    refine s_run rfl rfl (r_add rfl rfl (wI (by omega))) ?_
    refine s_run rfl rfl (rmi rfl) ?_
    refine k_nil ?_
    refine c_round ?_
    refine ⟨_, _, ?_, rfl, k + 1, by omega, rfl, rfl, rfl, rfl, rfl, ?_⟩
    ·omega
    ·rw [e, er]; exact H
  ·obtain rfl : k = m := by omega
   refine k_sg ?_
   refine s_run rfl rfl (r_lssF rfl rfl (by omega)) ?_
   refine k_nc ?_
   refine k_seq ?_
   refine k_f rfl ?_
   refine k_exit ?_
   refine c_exit ?_
   refine c_exit ?_
   refine b_hit ?_
   refine c_norm ?_
   refine k_sg ?_
   refine s_run rfl rfl (rai rfl) ?_
   refine k_nc ?_
   refine k_ret ?_
   refine fin1r (v := .int _ _) rfl rfl ?_
   exact ⟨rfl, H⟩
theorem nPersist (g : Geo) (d : Nv.D) (m : Nat) (a n : Int) (w : World) (hE : Ents (devL g d) w) (ho : Nv.Ok d m) (hg : GOk g m) (hm : m ≤ 100000) :
  Calls Try.prog 38 [ptr g.p, .int .i64 a, .int .i64 n].toArray w fun e w' => e = .returned (.int .i64 (Nv.persist d m a n).2) ∧ Heap w (ids (devL g d)) (devL g (Nv.persist d m a n).1) w' := by
 have H := Heap.start hE
 generalize hF : ids (devL g d) = F at H ⊢
 have hc : (d.cache.length : Int) = 8 * (m : Int) := by have := ho.hc; omega
 have hL := nLen g d
 rw [hc] at hL
 unfold Nv.persist
 by_cases h1 : a < 0
 ·rw [if_pos (.inl h1)]
  refine k_in (N := 50) Try.func38 rfl rfl rfl ?_
  refine k_sg ?_
  refine s_run rfl rfl (rai rfl) ?_
  refine k_nc ?_
  refine k_seq ?_
  refine k_sg ?_
  refine s_run rfl rfl (rmi rfl) ?_
  refine s_run rfl rfl (r_lssT rfl rfl (by omega)) ?_
  refine s_run rfl rfl (rmb rfl) ?_
  refine s_off rfl (g_off 11 (by kernel_rfl) rfl rfl) ?_
  refine s_off rfl (g_off 11 (by kernel_rfl) rfl rfl) ?_
  refine s_run rfl rfl (r_pkT (v := .bool _) rfl rfl) ?_
  refine s_run rfl rfl (rmb rfl) ?_
  refine s_off rfl (g_off 15 (by kernel_rfl) rfl rfl) ?_
  refine s_off rfl (g_off 15 (by kernel_rfl) rfl rfl) ?_
  refine s_off rfl (g_off 15 (by kernel_rfl) rfl rfl) ?_
  refine s_off rfl (g_off 15 (by kernel_rfl) rfl rfl) ?_
  refine s_run rfl rfl (r_pkT (v := .bool _) rfl rfl) ?_
  refine s_run rfl rfl (rmb rfl) ?_
  refine s_off rfl (g_off 21 (by kernel_rfl) rfl rfl) ?_
  refine s_off rfl (g_off 21 (by kernel_rfl) rfl rfl) ?_
  refine s_off rfl (g_off 21 (by kernel_rfl) rfl rfl) ?_
  refine s_off rfl (g_off 21 (by kernel_rfl) rfl rfl) ?_
  refine s_off rfl (g_off 21 (by kernel_rfl) rfl rfl) ?_
  refine s_off rfl (g_off 21 (by kernel_rfl) rfl rfl) ?_
  refine s_run rfl rfl (r_pkT (v := .bool _) rfl rfl) ?_
  refine k_nc ?_
  refine k_t rfl ?_
  refine k_sg ?_
  refine s_run rfl rfl (rai rfl) ?_
  refine k_nc ?_
  refine k_ret ?_
  refine c_ret ?_
  refine fin1r (v := .int _ _) rfl rfl ?_
  exact ⟨rfl, H⟩
 by_cases h2 : n < 0
 ·rw [if_pos (.inr (.inl h2))]
  refine k_in (N := 50) Try.func38 rfl rfl rfl ?_
  refine k_sg ?_
  refine s_run rfl rfl (rai rfl) ?_
  refine k_nc ?_
  refine k_seq ?_
  refine k_sg ?_
  refine s_run rfl rfl (rmi rfl) ?_
  refine s_run rfl rfl (r_lssF rfl rfl (by omega)) ?_
  refine s_run rfl rfl (rmb rfl) ?_
  refine s_run rfl (g_on 11 (by kernel_rfl) rfl) (rmi rfl) ?_
  refine s_run rfl (g_on 11 (by kernel_rfl) rfl) (r_lssT rfl rfl (by omega)) ?_
  refine s_run rfl rfl (r_pkF (v := .bool _) rfl rfl) ?_
  refine s_run rfl rfl (rmb rfl) ?_
  refine s_off rfl (g_off 15 (by kernel_rfl) rfl rfl) ?_
  refine s_off rfl (g_off 15 (by kernel_rfl) rfl rfl) ?_
  refine s_off rfl (g_off 15 (by kernel_rfl) rfl rfl) ?_
  refine s_off rfl (g_off 15 (by kernel_rfl) rfl rfl) ?_
  refine s_run rfl rfl (r_pkT (v := .bool _) rfl rfl) ?_
  refine s_run rfl rfl (rmb rfl) ?_
  refine s_off rfl (g_off 21 (by kernel_rfl) rfl rfl) ?_
  refine s_off rfl (g_off 21 (by kernel_rfl) rfl rfl) ?_
  refine s_off rfl (g_off 21 (by kernel_rfl) rfl rfl) ?_
  refine s_off rfl (g_off 21 (by kernel_rfl) rfl rfl) ?_
  refine s_off rfl (g_off 21 (by kernel_rfl) rfl rfl) ?_
  refine s_off rfl (g_off 21 (by kernel_rfl) rfl rfl) ?_
  refine s_run rfl rfl (r_pkT (v := .bool _) rfl rfl) ?_
  refine k_nc ?_
  refine k_t rfl ?_
  refine k_sg ?_
  refine s_run rfl rfl (rai rfl) ?_
  refine k_nc ?_
  refine k_ret ?_
  refine c_ret ?_
  refine fin1r (v := .int _ _) rfl rfl ?_
  exact ⟨rfl, H⟩
 by_cases h3 : 8 * (m : Int) < a
 ·rw [if_pos (.inr (.inr (.inl h3)))]
  refine k_in (N := 50) Try.func38 rfl rfl rfl ?_
  refine k_sg ?_
  refine s_run rfl rfl (rai rfl) ?_
  refine k_nc ?_
  refine k_seq ?_
  refine k_sg ?_
  refine s_run rfl rfl (rmi rfl) ?_
  refine s_run rfl rfl (r_lssF rfl rfl (by omega)) ?_
  refine s_run rfl rfl (rmb rfl) ?_
  refine s_run rfl (g_on 11 (by kernel_rfl) rfl) (rmi rfl) ?_
  refine s_run rfl (g_on 11 (by kernel_rfl) rfl) (r_lssF rfl rfl (by omega)) ?_
  refine s_run rfl rfl (r_pkF (v := .bool _) rfl rfl) ?_
  refine s_run rfl rfl (rmb rfl) ?_
  refine s_run rfl (g_on 15 (by kernel_rfl) rfl) (rmi rfl) ?_
  refine s_run rfl (g_on 15 (by kernel_rfl) rfl) (rmp rfl) ?_
  refine s_call (g_on 15 (by kernel_rfl) rfl) (hL _ H.ents) (ca24 rfl) ?_
  rintro e W1 ⟨rfl, H'⟩
  refine ⟨_, rfl, ?_⟩
  have H := H.same H'; clear H'
  refine s_run rfl (g_on 15 (by kernel_rfl) rfl) (r_gtrT rfl rfl (by omega)) ?_
  refine s_run rfl rfl (r_pkF (v := .bool _) rfl rfl) ?_
  refine s_run rfl rfl (rmb rfl) ?_
  refine s_off rfl (g_off 21 (by kernel_rfl) rfl rfl) ?_
  refine s_off rfl (g_off 21 (by kernel_rfl) rfl rfl) ?_
  refine s_off rfl (g_off 21 (by kernel_rfl) rfl rfl) ?_
  refine s_off rfl (g_off 21 (by kernel_rfl) rfl rfl) ?_
  refine s_off rfl (g_off 21 (by kernel_rfl) rfl rfl) ?_
  refine s_off rfl (g_off 21 (by kernel_rfl) rfl rfl) ?_
  refine s_run rfl rfl (r_pkT (v := .bool _) rfl rfl) ?_
  refine k_nc ?_
  refine k_t rfl ?_
  refine k_sg ?_
  refine s_run rfl rfl (rai rfl) ?_
  refine k_nc ?_
  refine k_ret ?_
  refine c_ret ?_
  refine fin1r (v := .int _ _) rfl rfl ?_
  exact ⟨rfl, H⟩
 by_cases h4 : 8 * (m : Int) - a < n
 ·rw [if_pos (.inr (.inr (.inr h4)))]
  refine k_in (N := 50) Try.func38 rfl rfl rfl ?_
  refine k_sg ?_
  refine s_run rfl rfl (rai rfl) ?_
  refine k_nc ?_
  refine k_seq ?_
  refine k_sg ?_
  refine s_run rfl rfl (rmi rfl) ?_
  refine s_run rfl rfl (r_lssF rfl rfl (by omega)) ?_
  refine s_run rfl rfl (rmb rfl) ?_
  refine s_run rfl (g_on 11 (by kernel_rfl) rfl) (rmi rfl) ?_
  refine s_run rfl (g_on 11 (by kernel_rfl) rfl) (r_lssF rfl rfl (by omega)) ?_
  refine s_run rfl rfl (r_pkF (v := .bool _) rfl rfl) ?_
  refine s_run rfl rfl (rmb rfl) ?_
  refine s_run rfl (g_on 15 (by kernel_rfl) rfl) (rmi rfl) ?_
  refine s_run rfl (g_on 15 (by kernel_rfl) rfl) (rmp rfl) ?_
  refine s_call (g_on 15 (by kernel_rfl) rfl) (hL _ H.ents) (ca24 rfl) ?_
  rintro e W1 ⟨rfl, H'⟩
  refine ⟨_, rfl, ?_⟩
  have H := H.same H'; clear H'
  refine s_run rfl (g_on 15 (by kernel_rfl) rfl) (r_gtrF rfl rfl (by omega)) ?_
  refine s_run rfl rfl (r_pkF (v := .bool _) rfl rfl) ?_
  refine s_run rfl rfl (rmb rfl) ?_
  refine s_run rfl (g_on 21 (by kernel_rfl) rfl) (rmi rfl) ?_
  refine s_run rfl (g_on 21 (by kernel_rfl) rfl) (rmp rfl) ?_
  refine s_call (g_on 21 (by kernel_rfl) rfl) (hL _ H.ents) (ca24 rfl) ?_
  rintro e W1 ⟨rfl, H'⟩
  refine ⟨_, rfl, ?_⟩
  have H := H.same H'; clear H'
  refine s_run rfl (g_on 21 (by kernel_rfl) rfl) (rmi rfl) ?_
  refine s_run rfl (g_on 21 (by kernel_rfl) rfl) (r_sub rfl rfl (wI (by omega))) ?_
  refine s_run rfl (g_on 21 (by kernel_rfl) rfl) (r_gtrT rfl rfl (by omega)) ?_
  refine s_run rfl rfl (r_pkF (v := .bool _) rfl rfl) ?_
  refine k_nc ?_
  refine k_t rfl ?_
  refine k_sg ?_
  refine s_run rfl rfl (rai rfl) ?_
  refine k_nc ?_
  refine k_ret ?_
  refine c_ret ?_
  refine fin1r (v := .int _ _) rfl rfl ?_
  exact ⟨rfl, H⟩
 rw [if_neg (by omega)]
 by_cases h5 : n = 0
 ·rw [if_pos h5]
  refine k_in (N := 50) Try.func38 rfl rfl rfl ?_
  refine k_sg ?_
  refine s_run rfl rfl (rai rfl) ?_
  refine k_nc ?_
  refine k_seq ?_
  refine k_sg ?_
  refine s_run rfl rfl (rmi rfl) ?_
  refine s_run rfl rfl (r_lssF rfl rfl (by omega)) ?_
  refine s_run rfl rfl (rmb rfl) ?_
  refine s_run rfl (g_on 11 (by kernel_rfl) rfl) (rmi rfl) ?_
  refine s_run rfl (g_on 11 (by kernel_rfl) rfl) (r_lssF rfl rfl (by omega)) ?_
  refine s_run rfl rfl (r_pkF (v := .bool _) rfl rfl) ?_
  refine s_run rfl rfl (rmb rfl) ?_
  refine s_run rfl (g_on 15 (by kernel_rfl) rfl) (rmi rfl) ?_
  refine s_run rfl (g_on 15 (by kernel_rfl) rfl) (rmp rfl) ?_
  refine s_call (g_on 15 (by kernel_rfl) rfl) (hL _ H.ents) (ca24 rfl) ?_
  rintro e W1 ⟨rfl, H'⟩
  refine ⟨_, rfl, ?_⟩
  have H := H.same H'; clear H'
  refine s_run rfl (g_on 15 (by kernel_rfl) rfl) (r_gtrF rfl rfl (by omega)) ?_
  refine s_run rfl rfl (r_pkF (v := .bool _) rfl rfl) ?_
  refine s_run rfl rfl (rmb rfl) ?_
  refine s_run rfl (g_on 21 (by kernel_rfl) rfl) (rmi rfl) ?_
  refine s_run rfl (g_on 21 (by kernel_rfl) rfl) (rmp rfl) ?_
  refine s_call (g_on 21 (by kernel_rfl) rfl) (hL _ H.ents) (ca24 rfl) ?_
  rintro e W1 ⟨rfl, H'⟩
  refine ⟨_, rfl, ?_⟩
  have H := H.same H'; clear H'
  refine s_run rfl (g_on 21 (by kernel_rfl) rfl) (rmi rfl) ?_
  refine s_run rfl (g_on 21 (by kernel_rfl) rfl) (r_sub rfl rfl (wI (by omega))) ?_
  refine s_run rfl (g_on 21 (by kernel_rfl) rfl) (r_gtrF rfl rfl (by omega)) ?_
  refine s_run rfl rfl (r_pkF (v := .bool _) rfl rfl) ?_
  refine k_nc ?_
  refine k_f rfl ?_
  refine k_skip ?_
  refine c_norm ?_
  refine k_seq ?_
  refine k_sg ?_
  refine s_run rfl rfl (rmi rfl) ?_
  refine s_run rfl rfl (r_gtrF rfl rfl (by omega)) ?_
  refine k_nc ?_
  refine k_f rfl ?_
  refine k_skip ?_
  refine c_norm ?_
  refine k_sg ?_
  refine s_run rfl rfl (rmp rfl) ?_
  refine s_call rfl (nFence g d m _ H.ents ho hg hm) (ca35 rfl) ?_
  rintro e W1 ⟨rfl, H'⟩
  refine ⟨_, rfl, ?_⟩
  have H := H.whole H'; clear H'
  refine s_run rfl rfl (rai rfl) ?_
  refine k_nc ?_
  refine k_ret ?_
  refine fin1r (v := .int _ _) rfl rfl ?_
  exact ⟨rfl, H⟩
 rw [if_neg h5]
 obtain ⟨i, hi⟩ : ∃ i : Nat, (a / 8).toNat = i := ⟨_, rfl⟩
 obtain ⟨q, hq⟩ : ∃ q : Nat, ((a + n - 1) / 8).toNat + 1 - (a / 8).toNat = q := ⟨_, rfl⟩
 rw [hi] at hq
 rw [hi, hq]
 have hiq : (i : Int) = a / 8 ∧ ((i + q : Nat) : Int) = (a + n - 1) / 8 + 1 := by omega
 refine k_in (N := 50) Try.func38 rfl rfl rfl ?_
 refine k_sg ?_
 refine s_run rfl rfl (rai rfl) ?_
 refine k_nc ?_
 refine k_seq ?_
 refine k_sg ?_
 refine s_run rfl rfl (rmi rfl) ?_
 refine s_run rfl rfl (r_lssF rfl rfl (by omega)) ?_
 refine s_run rfl rfl (rmb rfl) ?_
 refine s_run rfl (g_on 11 (by kernel_rfl) rfl) (rmi rfl) ?_
 refine s_run rfl (g_on 11 (by kernel_rfl) rfl) (r_lssF rfl rfl (by omega)) ?_
 refine s_run rfl rfl (r_pkF (v := .bool _) rfl rfl) ?_
 refine s_run rfl rfl (rmb rfl) ?_
 refine s_run rfl (g_on 15 (by kernel_rfl) rfl) (rmi rfl) ?_
 refine s_run rfl (g_on 15 (by kernel_rfl) rfl) (rmp rfl) ?_
 refine s_call (g_on 15 (by kernel_rfl) rfl) (hL _ H.ents) (ca24 rfl) ?_
 rintro e W1 ⟨rfl, H'⟩
 refine ⟨_, rfl, ?_⟩
 have H := H.same H'; clear H'
 refine s_run rfl (g_on 15 (by kernel_rfl) rfl) (r_gtrF rfl rfl (by omega)) ?_
 refine s_run rfl rfl (r_pkF (v := .bool _) rfl rfl) ?_
 refine s_run rfl rfl (rmb rfl) ?_
 refine s_run rfl (g_on 21 (by kernel_rfl) rfl) (rmi rfl) ?_
 refine s_run rfl (g_on 21 (by kernel_rfl) rfl) (rmp rfl) ?_
 refine s_call (g_on 21 (by kernel_rfl) rfl) (hL _ H.ents) (ca24 rfl) ?_
 rintro e W1 ⟨rfl, H'⟩
 refine ⟨_, rfl, ?_⟩
 have H := H.same H'; clear H'
 refine s_run rfl (g_on 21 (by kernel_rfl) rfl) (rmi rfl) ?_
 refine s_run rfl (g_on 21 (by kernel_rfl) rfl) (r_sub rfl rfl (wI (by omega))) ?_
 refine s_run rfl (g_on 21 (by kernel_rfl) rfl) (r_gtrF rfl rfl (by omega)) ?_
 refine s_run rfl rfl (r_pkF (v := .bool _) rfl rfl) ?_
 refine k_nc ?_
 refine k_f rfl ?_
 refine k_skip ?_
 refine c_norm ?_
 refine k_seq ?_
 refine k_sg ?_
 refine s_run rfl rfl (rmi rfl) ?_
 refine s_run rfl rfl (r_gtrT rfl rfl (by omega)) ?_
 refine k_nc ?_
 refine k_t rfl ?_
 refine k_sg ?_
 refine s_run rfl rfl (rmi rfl) ?_
 refine s_run rfl rfl (r_quo rfl rfl (by omega) (wI (by omega))) ?_
 refine s_run rfl rfl (rai rfl) ?_
 refine k_nc ?_
 refine k_b ?_
 refine k_loop (fun z f W => ∃ (j : Nat) (x : Nv.D), j ≤ q ∧ z = q - j ∧ Nv.Ok x m ∧ Nv.flushAll d m i q = Nv.flushAll x m (i + j) (q - j) ∧ f 0 = ptr g.p ∧ f 1 = .int .i64 a ∧ f 2 = .int .i64 n ∧ f 7 = .int .i64 (i + j : Nat) ∧ Heap w F (devL g x) W) q ⟨0, d, by omega, rfl, ho, rfl, rfl, rfl, rfl, by rw [Nat.add_zero, hiq.1]; rfl, H⟩ ?_
 clear H
 rintro z f W ⟨j, x, hj, rfl, hx, hfl, h0, h1', h2', h7, H⟩
 obtain ⟨f, rfl⟩ := live4 h0 h1' h2' h7
 clear h0 h1' h2' h7
 by_cases hlt : j < q
 ·obtain ⟨r, hr⟩ : ∃ r, q - j = r + 1 := ⟨q - j - 1, by omega⟩
  rw [hr, Nv.flushAll] at hfl
  by_cases he : (Nv.flush x m ((i + j : Nat) : Int)).2 = 0
  ·rw [if_pos he] at hfl
   have hF2 := nFlush g x m ((i + j : Nat) : Int) W H.ents hx hg hm
   rw [he] at hF2
   refine k_seq ?_
   refine k_sg ?_
   refine s_run rfl rfl (rmi rfl) ?_
   refine s_run rfl rfl (rmi rfl) ?_
   refine s_run rfl rfl (rmi rfl) ?_
   refine s_run rfl rfl (r_add rfl rfl (wI (by omega))) ?_
   refine s_run rfl rfl (r_sub rfl rfl (wI (by omega))) ?_
   refine s_run rfl rfl (r_quo rfl rfl (by omega) (wI (by omega))) ?_
   refine s_run rfl rfl (r_leqT rfl rfl (by omega)) ?_
   refine k_nc ?_
   refine k_t rfl ?_
   refine k_skip ?_
   refine c_norm ?_
   refine k_seq ?_
   refine k_b ?_
   refine k_sg ?_
   refine s_run rfl rfl (rmp rfl) ?_
   refine s_run rfl rfl (rmi rfl) ?_
   refine s_call rfl (hF2) (ca49 rfl) ?_
   rintro e W1 ⟨rfl, H'⟩
   refine ⟨_, rfl, ?_⟩
   have H := H.whole H'; clear H'
   refine s_run rfl rfl (rai rfl) ?_
   refine k_nc ?_
   refine k_sg ?_
   refine s_run rfl rfl (rmi rfl) ?_
   refine s_run rfl rfl (r_neqF rfl rfl (by omega)) ?_
   refine k_nc ?_
   refine k_f rfl ?_
   refine k_skip ?_
   refine b_norm ?_
   refine c_norm ?_
   refine k_rg ?_
   refine s_run rfl rfl (rmi rfl) ?_
   refine s_run rfl rfl (r_add rfl rfl (wI (by omega))) ?_
   refine s_run rfl rfl (rai rfl) ?_
   refine k_nil ?_
   refine c_round ?_
   refine ⟨_, _, ?_, rfl, j + 1, _, by omega, rfl, hx.flush _, ?_, rfl, rfl, rfl, rfl, H⟩
   ·omega
   ·rw [hfl, show q - (j + 1) = r from by omega]; rfl
  ·rw [if_neg he] at hfl
   have hF2 := nFlush g x m ((i + j : Nat) : Int) W H.ents hx hg hm
   have er : Nv.flushAll d m i q = Nv.flush x m ((i + j : Nat) : Int) := hfl
   rw [er, if_neg he]
   refine k_seq ?_
   refine k_sg ?_
   refine s_run rfl rfl (rmi rfl) ?_
   refine s_run rfl rfl (rmi rfl) ?_
   refine s_run rfl rfl (rmi rfl) ?_
   refine s_run rfl rfl (r_add rfl rfl (wI (by omega))) ?_
   refine s_run rfl rfl (r_sub rfl rfl (wI (by omega))) ?_
   refine s_run rfl rfl (r_quo rfl rfl (by omega) (wI (by omega))) ?_
   refine s_run rfl rfl (r_leqT rfl rfl (by omega)) ?_
   refine k_nc ?_
   refine k_t rfl ?_
   refine k_skip ?_
   refine c_norm ?_
   refine k_seq ?_
   refine k_b ?_
   refine k_sg ?_
   refine s_run rfl rfl (rmp rfl) ?_
   refine s_run rfl rfl (rmi rfl) ?_
   refine s_call rfl (hF2) (ca49 rfl) ?_
   rintro e W1 ⟨rfl, H'⟩
   refine ⟨_, rfl, ?_⟩
   have H := H.whole H'; clear H'
   refine s_run rfl rfl (rai rfl) ?_
   refine k_nc ?_
   refine k_sg ?_
   refine s_run rfl rfl (rmi rfl) ?_
   refine s_run rfl rfl (r_neqT rfl rfl (by omega)) ?_
   refine k_nc ?_
   refine k_t rfl ?_
   refine k_sg ?_
   refine s_run rfl rfl (rmi rfl) ?_
   refine s_run rfl rfl (rai rfl) ?_
   refine k_nc ?_
   refine k_ret ?_
   refine b_ret ?_
   refine c_ret ?_
   refine c_ret ?_
   refine b_ret ?_
   refine c_ret ?_
   refine fin1r (v := .int _ _) rfl rfl ?_
   exact ⟨rfl, H⟩
 ·obtain rfl : j = q := by omega
  rw [Nat.sub_self, Nv.flushAll] at hfl
  rw [hfl, if_pos rfl]
  refine k_seq ?_
  refine k_sg ?_
  refine s_run rfl rfl (rmi rfl) ?_
  refine s_run rfl rfl (rmi rfl) ?_
  refine s_run rfl rfl (rmi rfl) ?_
  refine s_run rfl rfl (r_add rfl rfl (wI (by omega))) ?_
  refine s_run rfl rfl (r_sub rfl rfl (wI (by omega))) ?_
  refine s_run rfl rfl (r_quo rfl rfl (by omega) (wI (by omega))) ?_
  refine s_run rfl rfl (r_leqF rfl rfl (by omega)) ?_
  refine k_nc ?_
  refine k_f rfl ?_
  refine k_exit ?_
  refine c_exit ?_
  refine c_exit ?_
  refine b_hit ?_
  refine c_norm ?_
  refine k_sg ?_
  refine s_run rfl rfl (rmp rfl) ?_
  refine s_call rfl (nFence g x m _ H.ents hx hg hm) (ca35 rfl) ?_
  rintro e W1 ⟨rfl, H'⟩
  refine ⟨_, rfl, ?_⟩
  have H := H.whole H'; clear H'
  refine s_run rfl rfl (rai rfl) ?_
  refine k_nc ?_
  refine k_ret ?_
  refine fin1r (v := .int _ _) rfl rfl ?_
  exact ⟨rfl, H⟩
end Go.Proofs.Ytmekhdclnhhhbaa
end

section
namespace Go.Proofs.Ytmekhdclnhhhbaa
open Go.RowKit
theorem nDirty' (g : Geo) (d : Nv.D) (m : Nat) (w : World) (hE : Ents (devL g d) w) (ho : Nv.Ok d m) (hm : m ≤ 100000) :
  Calls Try.prog 27 [ptr g.p].toArray w fun e w' => ∃ A b c, e = .returned (.slice A (Nv.dirtyTo d.dirty m).length c) ∧ ((Nv.dirtyTo d.dirty m).length ≠ 0 → A = some ⟨b, 0, none⟩) ∧ Heap w [] [vec (Value.int .i64) b (Nv.dirtyTo d.dirty m) 3] w' := by
 refine (nDirty g d m w hE ho hm).mono ?_
 rintro e w' ⟨A, c, rfl, H⟩
 obtain ⟨b, hb, H2⟩ := own_vec0 H
 exact ⟨A, b, c, rfl, hb, H2⟩
theorem crashTo_len {d : Nv.D} {m : Nat} (ho : Nv.Ok d m) (cs : List Int) : ∀ k, (Nv.crashTo d (Nv.dirtyTo d.dirty m) cs k).length = 8 * m
 | 0 => ho.hl
 | k + 1 => by
  unfold Nv.crashTo
  split
  ·rename_i h
   obtain ⟨i, e, hi, _⟩ := Nv.dirtyTo_mem d.dirty m k _ (getE h.1)
   have e2 : ((Nv.dirtyTo d.dirty m).getD k 0).toNat = i := by
    have : (Nv.dirtyTo d.dirty m).getD k 0 = (i : Int) := e
    rw [this]; simp
   rw [e2]
   exact Nv.length_crashOne ho (crashTo_len ho cs k) hi _
  ·exact crashTo_len ho cs k
theorem nCrash (g : Geo) (d : Nv.D) (m : Nat) (A : Option Addr) (nc cc : Nat) (cs : List Int) (w : World) (hE : Ents (devL g d) w) (ho : Nv.Ok d m) (hg : GOk g m) (hm : m ≤ 100000)
  (hz : Sees (Value.int .u8) w [] A cs) (hl : cs.length = nc) (hb : ∀ z ∈ cs, 0 ≤ z) (hnc : nc ≤ 1000000) :
  Calls Try.prog 37 [ptr g.p, .slice A nc cc].toArray w fun e w' => ∃ g', e = .returned (ptr g'.p) ∧ GOk g' m ∧ Heap w [] (devL g' (Nv.load (Nv.crashTo d (Nv.dirtyTo d.dirty m) cs (Nv.dirtyTo d.dirty m).length) m)) w' := by
 have HR := Heap.start hE
 have HR0 := HR
 have H := Heap.nil w
 have hlast := ho.hl
 generalize hF : ids (devL g d) = F at HR HR0
 unfold devL devCells at HR
 rw [hlast] at HR
 refine k_in (N := 68) Try.func37 rfl rfl rfl ?_
 refine k_sg ?_
 refine s_run rfl rfl (rap rfl) ?_
 refine k_nc ?_
 refine k_sg ?_
 refine s_run rfl rfl (rmp rfl) ?_
 refine s_run rfl rfl (r_nc rfl) ?_
 refine s_run rfl rfl (r_fa0 rfl fo114_0) ?_
 refine s_run rfl rfl (r_lo (HR.same H.only) 0 rfl rfl rfl ag25) ?_
 refine s_call rfl (nClone _ _ _ d.last _ (fun _ => ⟨_, _, rfl, by simp, (HR.same H.only).reads0 1 rfl⟩) (by omega) (by omega)) (ca79 rfl) ?_
 rintro e W1 ⟨bo, co, rfl, hco, H'⟩
 refine ⟨_, rfl, ?_⟩
 have H := H.more H'; clear H'
 refine s_run rfl rfl (ras rfl) ?_
 refine k_nc ?_
 refine k_seq ?_
 refine k_sg ?_
 refine s_run rfl rfl (rmp rfl) ?_
 refine s_call rfl (nDirty' g d m _ (HR0.same H.only).ents ho hm) (ca27 rfl) ?_
 rintro e W1 ⟨AD, bD, cD, rfl, hAD, H'⟩
 refine ⟨_, rfl, ?_⟩
 have H := H.more H'; clear H'; simp only [List.cons_append, List.nil_append] at H
 refine s_run rfl rfl (r_len rfl Try.underlying42) ?_
 refine s_run rfl rfl (rmi rfl) ?_
 refine k_nc ?_
 refine k_b ?_
 have hdl := dirtyTo_len d.dirty m
 have hmem := Nv.dirtyTo_mem d.dirty m
 have hcl := crashTo_len ho cs
 have hstop := Nv.crashTo_stop d (Nv.dirtyTo d.dirty m) cs
 have hT := Nv.crashTo_succ d (Nv.dirtyTo d.dirty m) cs
 generalize hls : Nv.dirtyTo d.dirty m = ls at *
 refine k_loop (fun q f W => ∃ (k : Nat), k ≤ ls.length ∧ q = ls.length - k ∧ f 0 = ptr g.p ∧ f 1 = .slice A nc cc ∧ f 5 = .slice (some ⟨bo, 0, none⟩) (8 * m) co ∧ f 14 = .slice AD ls.length cD ∧ f 15 = .int .i64 ls.length ∧ f 16 = .int .i64 k ∧ Heap w [] [vec (Value.int .i64) bD ls 3, vec (Value.int .u64) bo (Nv.crashTo d ls cs k) 22] W) ls.length ⟨0, by omega, rfl, rfl, rfl, rfl, rfl, rfl, rfl, H⟩ ?_
 clear H
 rintro q f W ⟨k, hk, rfl, h0, h1, h5, h14, h15, h16, H⟩
 by_cases hlt : k < ls.length
 ·obtain rfl := hAD (by omega)
  obtain ⟨i, hi, him, hdi⟩ := hmem k _ (getE hlt)
  have hli : ls[k]? = some (i : Int) := by rw [getE hlt, hi]
  obtain ⟨f, rfl⟩ := live6 h0 h1 h5 h14 h15 h16
  clear h0 h1 h5 h14 h15 h16
  by_cases hkc : k < cs.length
  ·have hck := getE hkc
   have hc0 : 0 ≤ cs.getD k default := hb _ (List.mem_of_getElem? hck)
   obtain ⟨bc, oc, rfl, _, hrc⟩ := hz (by omega)
   have hcell := hrc k _ hck
   have er : Nv.crashTo d ls cs (k + 1) = Nv.crashOne d (Nv.crashTo d ls cs k) i (cs.getD k default) := by
    rw [hT, if_pos ⟨hlt, hkc⟩]
    have : ls.getD k 0 = (i : Int) := hi
    rw [this]; simp
   have hck2 := hcl k
   have hck3 := hcl (k + 1)
   generalize Nv.crashTo d ls cs k = out at *
   generalize cs.getD k default = c at *
   have hgc := hg.c
   have hgf := hg.f
   have hf := ho.hf
   have hc := ho.hc
   have hp := ho.hp
   unfold Nv.crashOne at er
   by_cases g1 : c % 3 = 1
   ·rw [if_pos g1] at er
    by_cases g2 : d.pend.getD i false = true
    ·have g2' : d.pend[i]? = some true := by rw [getE (by omega)]; exact congrArg some g2
     rw [if_pos g2] at er
     refine k_sg ?_
     refine s_run rfl rfl (r_lssT rfl rfl (by omega)) ?_
     refine k_nc ?_
     refine k_seq ?_
     refine k_t rfl ?_
     refine k_skip ?_
     refine c_norm ?_
     refine k_seq ?_
     refine k_b ?_
     refine k_sg ?_
     refine s_run rfl rfl (rmi rfl) ?_
     refine s_run rfl rfl (r_ix1 rfl rfl rfl (by omega) Try.underlying42 sz3) ?_
     refine s_run rfl rfl (r_lv H 0 rfl rfl (by assumption) ag3) ?_
     refine s_run rfl rfl (rai rfl) ?_
     refine s_run rfl rfl (rai rfl) ?_
     refine k_nc ?_
     refine k_seq ?_
     refine k_sg ?_
     refine s_run rfl rfl (rmi rfl) ?_
     refine s_run rfl rfl (rms rfl) ?_
     refine s_run rfl rfl (r_len rfl Try.underlying49) ?_
     refine s_run rfl rfl (r_geqF rfl rfl (by omega)) ?_
     refine k_nc ?_
     refine k_f rfl ?_
     refine k_skip ?_
     refine c_norm ?_
     refine k_sg ?_
     refine s_run rfl rfl (rms rfl) ?_
     refine s_run rfl rfl (rmi rfl) ?_
     refine s_run rfl rfl (r_ix1o rfl rfl rfl (by omega) Try.underlying49 sz5) ?_
     refine s_run rfl rfl (r_lr H rfl hcell (by simp) ag5) ?_
     refine s_run rfl rfl (r_rem rfl rfl (by omega)) ?_
     refine k_nc ?_
     refine k_b ?_
     refine k_sg ?_
     refine s_run rfl rfl (r_eqlT rfl rfl (by omega)) ?_
     refine s_run rfl rfl (rab rfl) ?_
     refine k_nc ?_
     refine k_t rfl ?_
     refine k_sg ?_
     refine s_run rfl rfl (rmp rfl) ?_
     refine s_run rfl rfl (r_nc rfl) ?_
     refine s_run rfl rfl (r_fa0 rfl fo114_4) ?_
     refine s_run rfl rfl (r_lo (HR.same H.only) 0 rfl rfl rfl ag53) ?_
     refine s_run rfl rfl (rmi rfl) ?_
     refine s_run rfl rfl (r_ix1 rfl rfl rfl (by omega) Try.underlying53 sz4) ?_
     refine s_run rfl rfl (r_lv (HR.same H.only) 5 rfl rfl (by assumption) ag4) ?_
     refine k_nc ?_
     refine k_t rfl ?_
     refine k_qt 11 mixed (by kernel_rfl) H rfl rfl ?_
     refine q_run rfl rfl (fun _ H => r_mv (v := .pointer _) rfl) ?_
     refine q_run rfl rfl (fun _ H => r_mv (v := .slice _ _ _) rfl) ?_
     refine q_run rfl rfl (fun _ H => r_mv (v := .int _ _) rfl) ?_
     refine q_call rfl rfl (fun _ H => nPart bo co i _ _ _ (by omega)) (ca77 rfl) ?_
     refine q_run rfl rfl (fun _ H => r_mv (v := .pointer _) rfl) ?_
     refine q_run rfl rfl (fun _ H => r_mv (v := .pointer _) rfl) ?_
     refine q_run rfl rfl (fun _ H => r_nc rfl) ?_
     refine q_run rfl rfl (fun _ H => r_fa0 rfl fo114_2) ?_
     refine q_run rfl rfl (fun _ H => r_lo (HR.same H.only) 0 rfl rfl rfl ag25) ?_
     refine q_run rfl rfl (fun _ H => r_mv (v := .int _ _) rfl) ?_
     refine q_call rfl rfl (fun _ H => nPart g.bf g.cf i _ _ _ (by omega)) (ca77 rfl) ?_
     refine q_nil ?_
     intro _ H'; clear H; have H := H'; clear H'
     refine s_cpo (enc := (Value.int .u64)) H 1 rfl rfl rfl rfl (HR.reads 3 rfl (8 * i) 8) (by simp) (by simp; omega) (fun _ => rfl) (by first | omega | (simp; omega)) Try.underlying25 inf22 ?_
     clear H; intro _ H; simp only [jA, jB, jC, jD, jE, jF, jG, jH, jI, jJ, jK, Nat.reduceAdd] at H
     refine k_nil ?_
     refine b_norm ?_
     refine b_norm ?_
     refine c_norm ?_
     refine k_rg ?_
     refine s_run rfl rfl (r_add rfl rfl (wI (by omega))) ?_
     refine s_run rfl rfl (rmi rfl) ?_
     refine k_nil ?_
     refine c_round ?_
     refine ⟨_, _, ?_, rfl, k + 1, by omega, rfl, rfl, rfl, rfl, rfl, rfl, rfl, ?_⟩
     ·omega
     ·rw [er]; simpa [Nv.setPart, Nv.part] using H
    ·have g2' : d.pend[i]? = some false := by rw [getE (by omega)]; exact congrArg some (by simpa using g2)
     rw [if_neg g2] at er
     refine k_sg ?_
     refine s_run rfl rfl (r_lssT rfl rfl (by omega)) ?_
     refine k_nc ?_
     refine k_seq ?_
     refine k_t rfl ?_
     refine k_skip ?_
     refine c_norm ?_
     refine k_seq ?_
     refine k_b ?_
     refine k_sg ?_
     refine s_run rfl rfl (rmi rfl) ?_
     refine s_run rfl rfl (r_ix1 rfl rfl rfl (by omega) Try.underlying42 sz3) ?_
     refine s_run rfl rfl (r_lv H 0 rfl rfl (by assumption) ag3) ?_
     refine s_run rfl rfl (rai rfl) ?_
     refine s_run rfl rfl (rai rfl) ?_
     refine k_nc ?_
     refine k_seq ?_
     refine k_sg ?_
     refine s_run rfl rfl (rmi rfl) ?_
     refine s_run rfl rfl (rms rfl) ?_
     refine s_run rfl rfl (r_len rfl Try.underlying49) ?_
     refine s_run rfl rfl (r_geqF rfl rfl (by omega)) ?_
     refine k_nc ?_
     refine k_f rfl ?_
     refine k_skip ?_
     refine c_norm ?_
     refine k_sg ?_
     refine s_run rfl rfl (rms rfl) ?_
     refine s_run rfl rfl (rmi rfl) ?_
     refine s_run rfl rfl (r_ix1o rfl rfl rfl (by omega) Try.underlying49 sz5) ?_
     refine s_run rfl rfl (r_lr H rfl hcell (by simp) ag5) ?_
     refine s_run rfl rfl (r_rem rfl rfl (by omega)) ?_
     refine k_nc ?_
     refine k_b ?_
     refine k_sg ?_
     refine s_run rfl rfl (r_eqlT rfl rfl (by omega)) ?_
     refine s_run rfl rfl (rab rfl) ?_
     refine k_nc ?_
     refine k_t rfl ?_
     refine k_sg ?_
     refine s_run rfl rfl (rmp rfl) ?_
     refine s_run rfl rfl (r_nc rfl) ?_
     refine s_run rfl rfl (r_fa0 rfl fo114_4) ?_
     refine s_run rfl rfl (r_lo (HR.same H.only) 0 rfl rfl rfl ag53) ?_
     refine s_run rfl rfl (rmi rfl) ?_
     refine s_run rfl rfl (r_ix1 rfl rfl rfl (by omega) Try.underlying53 sz4) ?_
     refine s_run rfl rfl (r_lv (HR.same H.only) 5 rfl rfl (by assumption) ag4) ?_
     refine k_nc ?_
     refine k_f rfl ?_
     refine k_skip ?_
     refine b_norm ?_
     refine b_norm ?_
     refine c_norm ?_
     refine k_rg ?_
     refine s_run rfl rfl (r_add rfl rfl (wI (by omega))) ?_
     refine s_run rfl rfl (rmi rfl) ?_
     refine k_nil ?_
     refine c_round ?_
     refine ⟨_, _, ?_, rfl, k + 1, by omega, rfl, rfl, rfl, rfl, rfl, rfl, rfl, ?_⟩
     ·omega
     ·rw [er]; exact H
   ·rw [if_neg g1] at er
    by_cases g2 : c % 3 = 2
    ·rw [if_pos g2] at er
     refine k_sg ?_
     refine s_run rfl rfl (r_lssT rfl rfl (by omega)) ?_
     refine k_nc ?_
     refine k_seq ?_
     refine k_t rfl ?_
     refine k_skip ?_
     refine c_norm ?_
     refine k_seq ?_
     refine k_b ?_
     refine k_sg ?_
     refine s_run rfl rfl (rmi rfl) ?_
     refine s_run rfl rfl (r_ix1 rfl rfl rfl (by omega) Try.underlying42 sz3) ?_
     refine s_run rfl rfl (r_lv H 0 rfl rfl (by assumption) ag3) ?_
     refine s_run rfl rfl (rai rfl) ?_
     refine s_run rfl rfl (rai rfl) ?_
     refine k_nc ?_
     refine k_seq ?_
     refine k_sg ?_
     refine s_run rfl rfl (rmi rfl) ?_
     refine s_run rfl rfl (rms rfl) ?_
     refine s_run rfl rfl (r_len rfl Try.underlying49) ?_
     refine s_run rfl rfl (r_geqF rfl rfl (by omega)) ?_
     refine k_nc ?_
     refine k_f rfl ?_
     refine k_skip ?_
     refine c_norm ?_
     refine k_sg ?_
     refine s_run rfl rfl (rms rfl) ?_
     refine s_run rfl rfl (rmi rfl) ?_
     refine s_run rfl rfl (r_ix1o rfl rfl rfl (by omega) Try.underlying49 sz5) ?_
     refine s_run rfl rfl (r_lr H rfl hcell (by simp) ag5) ?_
     refine s_run rfl rfl (r_rem rfl rfl (by omega)) ?_
     refine k_nc ?_
     refine k_b ?_
     refine k_sg ?_
     refine s_run rfl rfl (r_eqlF rfl rfl (by omega)) ?_
     refine s_run rfl rfl (rab rfl) ?_
     refine k_nc ?_
     refine k_f rfl ?_
     refine k_sg ?_
     refine s_run rfl rfl (r_eqlT rfl rfl (by omega)) ?_
     refine s_run rfl rfl (rab rfl) ?_
     refine k_nc ?_
     refine k_t rfl ?_
     refine k_qt 11 mixed (by kernel_rfl) H rfl rfl ?_
     refine q_run rfl rfl (fun _ H => r_mv (v := .pointer _) rfl) ?_
     refine q_run rfl rfl (fun _ H => r_mv (v := .slice _ _ _) rfl) ?_
     refine q_run rfl rfl (fun _ H => r_mv (v := .int _ _) rfl) ?_
     refine q_call rfl rfl (fun _ H => nPart bo co i _ _ _ (by omega)) (ca77 rfl) ?_
     refine q_run rfl rfl (fun _ H => r_mv (v := .pointer _) rfl) ?_
     refine q_run rfl rfl (fun _ H => r_mv (v := .pointer _) rfl) ?_
     refine q_run rfl rfl (fun _ H => r_nc rfl) ?_
     refine q_run rfl rfl (fun _ H => r_fa0 rfl fo114_1) ?_
     refine q_run rfl rfl (fun _ H => r_lo (HR.same H.only) 0 rfl rfl rfl ag25) ?_
     refine q_run rfl rfl (fun _ H => r_mv (v := .int _ _) rfl) ?_
     refine q_call rfl rfl (fun _ H => nPart g.bc g.cc i _ _ _ (by omega)) (ca77 rfl) ?_
     refine q_nil ?_
     intro _ H'; clear H; have H := H'; clear H'
     refine s_cpo (enc := (Value.int .u64)) H 1 rfl rfl rfl rfl (HR.reads 2 rfl (8 * i) 8) (by simp) (by simp; omega) (fun _ => rfl) (by first | omega | (simp; omega)) Try.underlying25 inf22 ?_
     clear H; intro _ H; simp only [jA, jB, jC, jD, jE, jF, jG, jH, jI, jJ, jK, Nat.reduceAdd] at H
     refine k_nil ?_
     refine b_norm ?_
     refine b_norm ?_
     refine c_norm ?_
     refine k_rg ?_
     refine s_run rfl rfl (r_add rfl rfl (wI (by omega))) ?_
     refine s_run rfl rfl (rmi rfl) ?_
     refine k_nil ?_
     refine c_round ?_
     refine ⟨_, _, ?_, rfl, k + 1, by omega, rfl, rfl, rfl, rfl, rfl, rfl, rfl, ?_⟩
     ·omega
     ·rw [er]; simpa [Nv.setPart, Nv.part] using H
    ·rw [if_neg g2] at er
     refine k_sg ?_
     refine s_run rfl rfl (r_lssT rfl rfl (by omega)) ?_
     refine k_nc ?_
     refine k_seq ?_
     refine k_t rfl ?_
     refine k_skip ?_
     refine c_norm ?_
     refine k_seq ?_
     refine k_b ?_
     refine k_sg ?_
     refine s_run rfl rfl (rmi rfl) ?_
     refine s_run rfl rfl (r_ix1 rfl rfl rfl (by omega) Try.underlying42 sz3) ?_
     refine s_run rfl rfl (r_lv H 0 rfl rfl (by assumption) ag3) ?_
     refine s_run rfl rfl (rai rfl) ?_
     refine s_run rfl rfl (rai rfl) ?_
     refine k_nc ?_
     refine k_seq ?_
     refine k_sg ?_
     refine s_run rfl rfl (rmi rfl) ?_
     refine s_run rfl rfl (rms rfl) ?_
     refine s_run rfl rfl (r_len rfl Try.underlying49) ?_
     refine s_run rfl rfl (r_geqF rfl rfl (by omega)) ?_
     refine k_nc ?_
     refine k_f rfl ?_
     refine k_skip ?_
     refine c_norm ?_
     refine k_sg ?_
     refine s_run rfl rfl (rms rfl) ?_
     refine s_run rfl rfl (rmi rfl) ?_
     refine s_run rfl rfl (r_ix1o rfl rfl rfl (by omega) Try.underlying49 sz5) ?_
     refine s_run rfl rfl (r_lr H rfl hcell (by simp) ag5) ?_
     refine s_run rfl rfl (r_rem rfl rfl (by omega)) ?_
     refine k_nc ?_
     refine k_b ?_
     refine k_sg ?_
     refine s_run rfl rfl (r_eqlF rfl rfl (by omega)) ?_
     refine s_run rfl rfl (rab rfl) ?_
     refine k_nc ?_
     refine k_f rfl ?_
     refine k_sg ?_
     refine s_run rfl rfl (r_eqlF rfl rfl (by omega)) ?_
     refine s_run rfl rfl (rab rfl) ?_
     refine k_nc ?_
     refine k_f rfl ?_
     refine k_skip ?_
     refine b_norm ?_
     refine b_norm ?_
     refine c_norm ?_
     refine k_rg ?_
     refine s_run rfl rfl (r_add rfl rfl (wI (by omega))) ?_
     refine s_run rfl rfl (rmi rfl) ?_
     refine k_nil ?_
     refine c_round ?_
     refine ⟨_, _, ?_, rfl, k + 1, by omega, rfl, rfl, rfl, rfl, rfl, rfl, rfl, ?_⟩
     ·omega
     ·rw [er]; exact H
  ·have e := hstop k (.inr (by omega)) (ls.length - k)
   rw [show k + (ls.length - k) = ls.length from by omega] at e
   have hck := hcl k
   rw [e]
   generalize Nv.crashTo d ls cs k = out at *
   refine k_sg ?_
   refine s_run rfl rfl (r_lssT rfl rfl (by omega)) ?_
   refine k_nc ?_
   refine k_seq ?_
   refine k_t rfl ?_
   refine k_skip ?_
   refine c_norm ?_
   refine k_seq ?_
   refine k_b ?_
   refine k_sg ?_
   refine s_run rfl rfl (rmi rfl) ?_
   refine s_run rfl rfl (r_ix1 rfl rfl rfl (by omega) Try.underlying42 sz3) ?_
   refine s_run rfl rfl (r_lv H 0 rfl rfl (by assumption) ag3) ?_
   refine s_run rfl rfl (rai rfl) ?_
   refine s_run rfl rfl (rai rfl) ?_
   refine k_nc ?_
   refine k_seq ?_
   refine k_sg ?_
   refine s_run rfl rfl (rmi rfl) ?_
   refine s_run rfl rfl (rms rfl) ?_
   refine s_run rfl rfl (r_len rfl Try.underlying49) ?_
   refine s_run rfl rfl (r_geqT rfl rfl (by omega)) ?_
   refine k_nc ?_
   refine k_t rfl ?_
   refine k_exit ?_
   refine c_exit ?_
   refine b_miss rfl ?_
   refine c_exit ?_
   refine c_exit ?_
   refine b_hit ?_
   refine c_norm ?_
   refine k_sg ?_
   refine s_run rfl rfl (rms rfl) ?_
   refine s_call rfl (nload bo co m out _ H.drop.ents hck hm hco) (ca65 rfl) ?_
   rintro e W1 ⟨g', rfl, hg', H'⟩
   refine ⟨_, rfl, ?_⟩
   have H := H.drop.whole H'; clear H'
   refine s_run rfl rfl (rap rfl) ?_
   refine k_nc ?_
   refine k_ret ?_
   refine fin1r (v := .pointer _) rfl rfl ?_
   exact ⟨g', rfl, hg', H⟩
 ·obtain rfl : k = ls.length := by omega
  obtain ⟨f, rfl⟩ := live6 h0 h1 h5 h14 h15 h16
  clear h0 h1 h5 h14 h15 h16
  have hck := hcl ls.length
  generalize Nv.crashTo d ls cs ls.length = out at *
  refine k_sg ?_
  refine s_run rfl rfl (r_lssF rfl rfl (by omega)) ?_
  refine k_nc ?_
  refine k_seq ?_
  refine k_f rfl ?_
  refine k_exit ?_
  refine c_exit ?_
  refine c_exit ?_
  refine b_hit ?_
  refine c_norm ?_
  refine k_sg ?_
  refine s_run rfl rfl (rms rfl) ?_
  refine s_call rfl (nload bo co m out _ H.drop.ents hck hm hco) (ca65 rfl) ?_
  rintro e W1 ⟨g', rfl, hg', H'⟩
  refine ⟨_, rfl, ?_⟩
  have H := H.drop.whole H'; clear H'
  refine s_run rfl rfl (rap rfl) ?_
  refine k_nc ?_
  refine k_ret ?_
  refine fin1r (v := .pointer _) rfl rfl ?_
  exact ⟨g', rfl, hg', H⟩
end Go.Proofs.Ytmekhdclnhhhbaa
end

section
namespace Go.Proofs.Ytmekhdclnhhhbaa
open Go.RowKit
def fuseRel (d : Nv.D) (rf : Int) : Prop := (d.armed = true ∧ rf = d.fuse ∧ 0 ≤ rf ∧ rf ≤ 9223372036854775807) ∨ (d.armed = false ∧ rf = -1)
structure RefS where
 A0 : Option Addr
 c0 : Nat
 A1 : Option Addr
 c1 : Nat
 A2 : Option Addr
 c2 : Nat
 A3 : Option Addr
 c3 : Nat
 A4 : Option Addr
 c4 : Nat
 rf : Int
def refCells (s : RefS) (d : Nv.D) (m : Nat) : List Value := [.slice s.A0 m s.c0, .slice s.A1 m s.c1, .slice s.A2 m s.c2, .slice s.A3 m s.c3, .slice s.A4 m s.c4, .int .i64 d.steps, .int .i64 s.rf, .bool d.dead]
/-- the document's device that is d, out of blocks that are not of F -/
structure RefOk (w : World) (F : List Nat) (s : RefS) (d : Nv.D) (m : Nat) : Prop where
 now : Sees (Value.int .u64) w F s.A0 d.cache
 last : Sees (Value.int .u64) w F s.A1 d.last
 wait : Sees (Value.int .u64) w F s.A2 d.fl
 dirty : Sees Value.bool w F s.A3 d.dirty
 pend : Sees Value.bool w F s.A4 d.pend
 fuse : fuseRel d s.rf
 ok : Nv.Ok d m
theorem RefOk.later {w W : World} {F G : List Nat} {s : RefS} {d : Nv.D} {m : Nat} (h : RefOk w F s d m) (hO : Only G w W) (hG : ∀ i ∈ G, i ∈ F) : RefOk W F s d m :=
 ⟨h.now.later hO hG, h.last.later hO hG, h.wait.later hO hG, h.dirty.later hO hG, h.pend.later hO hG, h.fuse, h.ok⟩
theorem RefOk.killed {w : World} {F : List Nat} {s : RefS} {d : Nv.D} {m : Nat} (h : RefOk w F s d m) : RefOk w F s (Nv.killed d) m :=
 ⟨h.now, h.last, h.wait, h.dirty, h.pend, h.fuse, h.ok.killed⟩
theorem rLines (A : Option Addr) (m c : Nat) (zs : List Int) (w : World) (hz : Sees (Value.int .u64) w [] A zs) (hl : zs.length = m * 8) (hm : m ≤ 100000) :
  Calls Try.prog 111 [.slice A m c].toArray w fun e w' => ∃ A' b c', e = .returned (.slice A' m c') ∧ (m ≠ 0 → A' = some ⟨b, 0, none⟩) ∧ Heap w [] [vec (Value.int .u64) b zs 124] w' := by
 have H := Heap.nil w
 refine k_in (N := 6) Try.func111 rfl rfl rfl ?_
 refine k_sg ?_
 refine s_run rfl rfl (ras rfl) ?_
 refine k_nc ?_
 refine k_sg ?_
 refine s_bs0 8 (by omega) H rfl Try.underlying52 inf124 ?_
 intro _ _ H'; clear H; have H := H'; clear H'
 refine s_run rfl rfl (rms rfl) ?_
 refine s_apsN (enc := (Value.int .u64)) (xs := []) H 0 rfl rfl rfl rfl (hz) (hl) (fun _ => rfl) (by omega) (by omega) Try.underlying52 inf124 rfl ?_
 intro A' c' _ H'; simp only [List.set_cons_zero, List.set_cons_succ, List.take_succ_cons, List.take_zero, List.drop_succ_cons, List.drop_zero, List.cons_append, List.nil_append, List.append_nil, List.length_cons, List.length_nil, Nat.reduceAdd] at H'; clear H; have H := H'; clear H'
 refine s_run rfl rfl (ras rfl) ?_
 refine k_nc ?_
 refine k_ret ?_
 refine fin1r (v := .slice _ _ _) rfl rfl ?_
 rw [Nat.zero_add] at H
 obtain ⟨b, hb, _, H⟩ := own_vecN (by omega) H
 exact ⟨A', b, c', by rw [Nat.zero_add], hb, H⟩
theorem rFlags (A : Option Addr) (m c : Nat) (zs : List Bool) (w : World) (hz : Sees Value.bool w [] A zs) (hl : zs.length = m) (hm : m ≤ 100000) :
  Calls Try.prog 112 [.slice A m c].toArray w fun e w' => ∃ A' b c', e = .returned (.slice A' m c') ∧ (m ≠ 0 → A' = some ⟨b, 0, none⟩) ∧ Heap w [] [vec Value.bool b zs 4] w' := by
 have H := Heap.nil w
 refine k_in (N := 6) Try.func112 rfl rfl rfl ?_
 refine k_sg ?_
 refine s_run rfl rfl (ras rfl) ?_
 refine k_nc ?_
 refine k_sg ?_
 refine s_bs0 1 (by omega) H rfl Try.underlying53 inf4 ?_
 intro _ _ H'; clear H; have H := H'; clear H'
 refine s_run rfl rfl (rms rfl) ?_
 refine s_apps (enc := Value.bool) (xs := []) H 0 rfl rfl rfl rfl (hz) (hl) (fun _ => rfl) (by omega) Try.underlying53 inf4 rfl ?_
 intro A' c' _ _ H'; simp only [List.set_cons_zero, List.set_cons_succ, List.take_succ_cons, List.take_zero, List.drop_succ_cons, List.drop_zero, List.cons_append, List.nil_append, List.append_nil, List.length_cons, List.length_nil, Nat.reduceAdd] at H'; clear H; have H := H'; clear H'
 refine s_run rfl rfl (ras rfl) ?_
 refine k_nc ?_
 refine k_ret ?_
 refine fin1r (v := .slice _ _ _) rfl rfl ?_
 rw [Nat.zero_add] at H
 obtain ⟨b, hb, H⟩ := own_vec0 H
 exact ⟨A', b, c', by rw [Nat.zero_add], hb, H⟩
theorem rStep (s : RefS) (d : Nv.D) (m : Nat) (w : World) (hf : fuseRel d s.rf) :
  Calls Try.prog 110 [.agg (refCells s d m).toArray].toArray w fun e w' => ∃ rf, e = .returned (.tuple #[.agg (refCells { s with rf := rf } (if Nv.stops d = true then Nv.killed d else Nv.stepped d) m).toArray, .bool (!Nv.stops d)]) ∧ Only [] w w' ∧ fuseRel (if Nv.stops d = true then Nv.killed d else Nv.stepped d) rf := by
 have H := Heap.nil w
 by_cases hs : Nv.stops d = true
 ·rw [if_pos hs, hs]
  by_cases h1 : d.dead = true
  ·have hd : refCells s d m = [.slice s.A0 m s.c0, .slice s.A1 m s.c1, .slice s.A2 m s.c2, .slice s.A3 m s.c3, .slice s.A4 m s.c4, .int .i64 d.steps, .int .i64 s.rf, .bool true] := by unfold refCells; rw [h1]
   rw [hd]
   refine k_in (N := 25) Try.func110 rfl rfl rfl ?_
   refine k_sg ?_
   refine s_box H rfl rfl ?_
   intro p1 _ H'; clear H; have H := H'; clear H'
   refine s_al H rfl inf55 ?_
   intro p2 _ H'; clear H; have H := H'; clear H'
   refine s_run rfl rfl (rab rfl) ?_
   refine k_nc ?_
   refine k_seq ?_
   refine k_sg ?_
   refine s_run rfl rfl (r_fa0 rfl fo55_7) ?_
   refine s_run rfl rfl (r_lo H 1 rfl rfl rfl ag4) ?_
   refine s_run rfl rfl (rmb rfl) ?_
   refine s_off rfl (g_off 6 (by kernel_rfl) rfl rfl) ?_
   refine s_off rfl (g_off 6 (by kernel_rfl) rfl rfl) ?_
   refine s_off rfl (g_off 6 (by kernel_rfl) rfl rfl) ?_
   refine s_run rfl rfl (r_pkT (v := .bool _) rfl rfl) ?_
   refine k_nc ?_
   refine k_t rfl ?_
   refine k_sg ?_
   refine s_run rfl rfl (r_fa0 rfl fo55_7) ?_
   refine s_st (u := .bool _) H 1 rfl rfl rfl rfl rfl rfl sz4 ?_
   clear H; intro _ H; simp only [jA, jB, jC, jD, jE, jF, jG, jH, jI, jJ, jK, Nat.reduceAdd] at H
   refine k_nc ?_
   refine k_sg ?_
   refine s_run rfl rfl (r_la H 1 rfl rfl rfl ag55 sz55) ?_
   refine s_sw H 0 rfl rfl rfl rfl rfl rfl rfl sz55 ?_
   clear H; intro _ H; simp only [jA, jB, jC, jD, jE, jF, jG, jH, jI, jJ, jK, Nat.reduceAdd] at H
   refine s_run rfl rfl (rab rfl) ?_
   refine k_nc ?_
   refine k_ret ?_
   refine c_ret ?_
   refine fx2r rfl (rv_a H 0 rfl rfl rfl ag55 sz55) (rv_t (v := .bool _) rfl) ?_
   exact ⟨s.rf, rfl, H.only, hf⟩
  ·have h1 : d.dead = false := by simpa using h1
   have h2 : d.armed = true ∧ d.fuse = 0 := by simpa [Nv.stops, h1] using hs
   have h3 : s.rf = 0 := by
    rcases hf with ⟨_, e, _⟩ | ⟨e, _⟩
    ·rw [e, h2.2]
    ·rw [h2.1] at e; cases e
   have hd : refCells s d m = [.slice s.A0 m s.c0, .slice s.A1 m s.c1, .slice s.A2 m s.c2, .slice s.A3 m s.c3, .slice s.A4 m s.c4, .int .i64 d.steps, .int .i64 s.rf, .bool false] := by unfold refCells; rw [h1]
   rw [hd]
   refine k_in (N := 25) Try.func110 rfl rfl rfl ?_
   refine k_sg ?_
   refine s_box H rfl rfl ?_
   intro p1 _ H'; clear H; have H := H'; clear H'
   refine s_al H rfl inf55 ?_
   intro p2 _ H'; clear H; have H := H'; clear H'
   refine s_run rfl rfl (rab rfl) ?_
   refine k_nc ?_
   refine k_seq ?_
   refine k_sg ?_
   refine s_run rfl rfl (r_fa0 rfl fo55_7) ?_
   refine s_run rfl rfl (r_lo H 1 rfl rfl rfl ag4) ?_
   refine s_run rfl rfl (rmb rfl) ?_
   refine s_run rfl (g_on 6 (by kernel_rfl) rfl) (r_fa0 rfl fo55_6) ?_
   refine s_run rfl (g_on 6 (by kernel_rfl) rfl) (r_lo H 1 rfl rfl rfl ag3) ?_
   refine s_run rfl (g_on 6 (by kernel_rfl) rfl) (r_eqlT rfl rfl (by omega)) ?_
   refine s_run rfl rfl (r_pkF (v := .bool _) rfl rfl) ?_
   refine k_nc ?_
   refine k_t rfl ?_
   refine k_sg ?_
   refine s_run rfl rfl (r_fa0 rfl fo55_7) ?_
   refine s_st (u := .bool _) H 1 rfl rfl rfl rfl rfl rfl sz4 ?_
   clear H; intro _ H; simp only [jA, jB, jC, jD, jE, jF, jG, jH, jI, jJ, jK, Nat.reduceAdd] at H
   refine k_nc ?_
   refine k_sg ?_
   refine s_run rfl rfl (r_la H 1 rfl rfl rfl ag55 sz55) ?_
   refine s_sw H 0 rfl rfl rfl rfl rfl rfl rfl sz55 ?_
   clear H; intro _ H; simp only [jA, jB, jC, jD, jE, jF, jG, jH, jI, jJ, jK, Nat.reduceAdd] at H
   refine s_run rfl rfl (rab rfl) ?_
   refine k_nc ?_
   refine k_ret ?_
   refine c_ret ?_
   refine fx2r rfl (rv_a H 0 rfl rfl rfl ag55 sz55) (rv_t (v := .bool _) rfl) ?_
   exact ⟨s.rf, rfl, H.only, hf⟩
 ·have hs : Nv.stops d = false := by simpa using hs
  rw [hs, if_neg (by simp)]
  have h1 : d.dead = false ∧ (d.armed = true → ¬ d.fuse = 0) := by simpa [Nv.stops] using hs
  have hd : refCells s d m = [.slice s.A0 m s.c0, .slice s.A1 m s.c1, .slice s.A2 m s.c2, .slice s.A3 m s.c3, .slice s.A4 m s.c4, .int .i64 d.steps, .int .i64 s.rf, .bool false] := by unfold refCells; rw [h1.1]
  rw [hd]
  rcases hf with ⟨a1, a2, a3, a5⟩ | ⟨a1, a2⟩
  ·have a4 : 0 < s.rf := by have := h1.2 a1; omega
   refine k_in (N := 25) Try.func110 rfl rfl rfl ?_
   refine k_sg ?_
   refine s_box H rfl rfl ?_
   intro p1 _ H'; clear H; have H := H'; clear H'
   refine s_al H rfl inf55 ?_
   intro p2 _ H'; clear H; have H := H'; clear H'
   refine s_run rfl rfl (rab rfl) ?_
   refine k_nc ?_
   refine k_seq ?_
   refine k_sg ?_
   refine s_run rfl rfl (r_fa0 rfl fo55_7) ?_
   refine s_run rfl rfl (r_lo H 1 rfl rfl rfl ag4) ?_
   refine s_run rfl rfl (rmb rfl) ?_
   refine s_run rfl (g_on 6 (by kernel_rfl) rfl) (r_fa0 rfl fo55_6) ?_
   refine s_run rfl (g_on 6 (by kernel_rfl) rfl) (r_lo H 1 rfl rfl rfl ag3) ?_
   refine s_run rfl (g_on 6 (by kernel_rfl) rfl) (r_eqlF rfl rfl (by omega)) ?_
   refine s_run rfl rfl (r_pkF (v := .bool _) rfl rfl) ?_
   refine k_nc ?_
   refine k_f rfl ?_
   refine k_skip ?_
   refine c_norm ?_
   refine k_seq ?_
   refine k_sg ?_
   refine s_run rfl rfl (r_fa0 rfl fo55_6) ?_
   refine s_run rfl rfl (r_lo H 1 rfl rfl rfl ag3) ?_
   refine s_run rfl rfl (r_gtrT rfl rfl (by omega)) ?_
   refine k_nc ?_
   refine k_t rfl ?_
   refine k_rg ?_
   refine s_run rfl rfl (r_fa0 rfl fo55_6) ?_
   refine s_run rfl rfl (r_lo H 1 rfl rfl rfl ag3) ?_
   refine s_run rfl rfl (r_sub rfl rfl (wI (by omega))) ?_
   refine s_run rfl rfl (r_fa0 rfl fo55_6) ?_
   refine s_st (u := .int _ _) H 1 rfl rfl rfl rfl rfl rfl sz3 ?_
   clear H; intro _ H; simp only [jA, jB, jC, jD, jE, jF, jG, jH, jI, jJ, jK, Nat.reduceAdd] at H
   refine k_nc ?_
   refine k_sg ?_
   refine s_run rfl rfl (r_fa0 rfl fo55_5) ?_
   refine s_run rfl rfl (r_lo H 1 rfl rfl rfl ag3) ?_
   refine s_run rfl rfl (r_add rfl rfl rfl) ?_
   refine s_run rfl rfl (r_fa0 rfl fo55_5) ?_
   refine s_st (u := .int _ _) H 1 rfl rfl rfl rfl rfl rfl sz3 ?_
   clear H; intro _ H; simp only [jA, jB, jC, jD, jE, jF, jG, jH, jI, jJ, jK, Nat.reduceAdd] at H
   refine k_nc ?_
   refine k_sg ?_
   refine s_run rfl rfl (r_la H 1 rfl rfl rfl ag55 sz55) ?_
   refine s_sw H 0 rfl rfl rfl rfl rfl rfl rfl sz55 ?_
   clear H; intro _ H; simp only [jA, jB, jC, jD, jE, jF, jG, jH, jI, jJ, jK, Nat.reduceAdd] at H
   refine s_run rfl rfl (rab rfl) ?_
   refine k_nc ?_
   refine k_ret ?_
   refine fx2r rfl (rv_a H 0 rfl rfl rfl ag55 sz55) (rv_t (v := .bool _) rfl) ?_
   have ef : IntKind.i64.wrap (d.fuse - 1) = s.rf - 1 := by rw [← a2]; exact wI (by omega)
   refine ⟨s.rf - 1, ?_, H.only, .inl ⟨a1, ef.symm, by omega, by omega⟩⟩
   simp only [refCells, Nv.stepped, h1.1]; rfl
  ·refine k_in (N := 25) Try.func110 rfl rfl rfl ?_
   refine k_sg ?_
   refine s_box H rfl rfl ?_
   intro p1 _ H'; clear H; have H := H'; clear H'
   refine s_al H rfl inf55 ?_
   intro p2 _ H'; clear H; have H := H'; clear H'
   refine s_run rfl rfl (rab rfl) ?_
   refine k_nc ?_
   refine k_seq ?_
   refine k_sg ?_
   refine s_run rfl rfl (r_fa0 rfl fo55_7) ?_
   refine s_run rfl rfl (r_lo H 1 rfl rfl rfl ag4) ?_
   refine s_run rfl rfl (rmb rfl) ?_
   refine s_run rfl (g_on 6 (by kernel_rfl) rfl) (r_fa0 rfl fo55_6) ?_
   refine s_run rfl (g_on 6 (by kernel_rfl) rfl) (r_lo H 1 rfl rfl rfl ag3) ?_
   refine s_run rfl (g_on 6 (by kernel_rfl) rfl) (r_eqlF rfl rfl (by omega)) ?_
   refine s_run rfl rfl (r_pkF (v := .bool _) rfl rfl) ?_
   refine k_nc ?_
   refine k_f rfl ?_
   refine k_skip ?_
   refine c_norm ?_
   refine k_seq ?_
   refine k_sg ?_
   refine s_run rfl rfl (r_fa0 rfl fo55_6) ?_
   refine s_run rfl rfl (r_lo H 1 rfl rfl rfl ag3) ?_
   refine s_run rfl rfl (r_gtrF rfl rfl (by omega)) ?_
   refine k_nc ?_
   refine k_f rfl ?_
   refine k_skip ?_
   refine c_norm ?_
   refine k_sg ?_
   refine s_run rfl rfl (r_fa0 rfl fo55_5) ?_
   refine s_run rfl rfl (r_lo H 1 rfl rfl rfl ag3) ?_
   refine s_run rfl rfl (r_add rfl rfl rfl) ?_
   refine s_run rfl rfl (r_fa0 rfl fo55_5) ?_
   refine s_st (u := .int _ _) H 1 rfl rfl rfl rfl rfl rfl sz3 ?_
   clear H; intro _ H; simp only [jA, jB, jC, jD, jE, jF, jG, jH, jI, jJ, jK, Nat.reduceAdd] at H
   refine k_nc ?_
   refine k_sg ?_
   refine s_run rfl rfl (r_la H 1 rfl rfl rfl ag55 sz55) ?_
   refine s_sw H 0 rfl rfl rfl rfl rfl rfl rfl sz55 ?_
   clear H; intro _ H; simp only [jA, jB, jC, jD, jE, jF, jG, jH, jI, jJ, jK, Nat.reduceAdd] at H
   refine s_run rfl rfl (rab rfl) ?_
   refine k_nc ?_
   refine k_ret ?_
   refine fx2r rfl (rv_a H 0 rfl rfl rfl ag55 sz55) (rv_t (v := .bool _) rfl) ?_
   refine ⟨s.rf, ?_, H.only, .inr ⟨a1, a2⟩⟩
   simp only [refCells, Nv.stepped, h1.1]; rfl
end Go.Proofs.Ytmekhdclnhhhbaa
end

section
namespace Go.Proofs.Ytmekhdclnhhhbaa
open Go.RowKit
theorem Sees.nilF {α : Type} {enc : α → Value} {w : World} {F : List Nat} {A : Option Addr} {xs : List α} (h : Sees enc w F A xs) : Sees enc w [] A xs := h.mono (by simp)
theorem refE (s : RefS) (d : Nv.D) (m : Nat) : refCells s d m = [.slice s.A0 m s.c0, .slice s.A1 m s.c1, .slice s.A2 m s.c2, .slice s.A3 m s.c3, .slice s.A4 m s.c4, .int .i64 d.steps, .int .i64 s.rf, .bool d.dead] := rfl
theorem rStore (s : RefS) (d : Nv.D) (m : Nat) (a v : Int) (F : List Nat) (w : World) (hr : RefOk w F s d m) (hF : ∀ i ∈ F, i < w.heap.size) (hm : m ≤ 100000) :
  Calls Try.prog 71 [.agg (refCells s d m).toArray, .int .i64 a, .int .u64 v].toArray w fun e w' => ∃ s', e = .returned (.tuple #[.agg (refCells s' (Nv.store d m a v).1 m).toArray, .int .i64 (Nv.store d m a v).2]) ∧ Heap w [] [] w' ∧ RefOk w' F s' (Nv.store d m a v).1 m := by
 have H := Heap.nil w
 have hok := hr.ok
 have hc := hok.hc
 have hdd := hok.hd
 by_cases hin : 0 ≤ a ∧ a < 8 * (m : Int)
 ·have hS := rStep s d m
  by_cases hs : Nv.stops d = true
  ·have er : Nv.store d m a v = (Nv.killed d, 3) := by rw [Nv.store, if_pos hin, if_pos hs]
   rw [er]
   simp only [hs, if_true, Bool.not_true] at hS
   rw [refE]
   refine k_in (N := 51) Try.func71 rfl rfl rfl ?_
   refine k_sg ?_
   refine s_box H rfl rfl ?_
   intro p3 _ H'; clear H; have H := H'; clear H'
   refine s_al H rfl inf55 ?_
   intro p6 _ H'; clear H; have H := H'; clear H'
   refine s_run rfl rfl (rai rfl) ?_
   refine k_nc ?_
   refine k_seq ?_
   refine k_sg ?_
   refine s_run rfl rfl (rmi rfl) ?_
   refine s_run rfl rfl (r_lssF rfl rfl (by omega)) ?_
   refine s_run rfl rfl (rmb rfl) ?_
   refine s_run rfl (g_on 11 (by kernel_rfl) rfl) (rmi rfl) ?_
   refine s_run rfl (g_on 11 (by kernel_rfl) rfl) (r_fa0 rfl fo55_0) ?_
   refine s_run rfl (g_on 11 (by kernel_rfl) rfl) (r_lo H 1 rfl rfl rfl ag52) ?_
   refine s_run rfl (g_on 11 (by kernel_rfl) rfl) (r_len rfl Try.underlying52) ?_
   refine s_run rfl (g_on 11 (by kernel_rfl) rfl) (r_mul rfl rfl (wI (by omega))) ?_
   refine s_run rfl (g_on 11 (by kernel_rfl) rfl) (r_geqF rfl rfl (by omega)) ?_
   refine s_run rfl rfl (r_pkF (v := .bool _) rfl rfl) ?_
   refine k_nc ?_
   refine k_f rfl ?_
   refine k_skip ?_
   refine c_norm ?_
   refine k_sg ?_
   refine s_run rfl rfl (r_la H 1 rfl rfl rfl ag55 sz55) ?_
   refine s_call rfl (hS _ hr.fuse) (ca110 rfl) ?_
   rintro e W1 ⟨rf, rfl, H', hf'⟩
   refine ⟨_, rfl, ?_⟩
   have H := H.same H'; clear H'; simp only [refE]
   refine s_run rfl rfl (rmt rfl) ?_
   refine s_run rfl rfl (r_ext (v := .agg _) rfl rfl) ?_
   refine s_run rfl rfl (r_ext (v := .bool _) rfl rfl) ?_
   refine s_sw H 1 rfl rfl rfl rfl rfl rfl rfl sz55 ?_
   clear H; intro _ H; simp only [jA, jB, jC, jD, jE, jF, jG, jH, jI, jJ, jK, Nat.reduceAdd] at H
   refine s_run rfl rfl (rab rfl) ?_
   refine k_nc ?_
   refine k_seq ?_
   refine k_sg ?_
   refine s_run rfl rfl (rmb rfl) ?_
   refine s_run rfl rfl (r_notF rfl) ?_
   refine k_nc ?_
   refine k_t rfl ?_
   refine k_sg ?_
   refine s_run rfl rfl (r_la H 1 rfl rfl rfl ag55 sz55) ?_
   refine s_sw H 0 rfl rfl rfl rfl rfl rfl rfl sz55 ?_
   clear H; intro _ H; simp only [jA, jB, jC, jD, jE, jF, jG, jH, jI, jJ, jK, Nat.reduceAdd] at H
   refine s_run rfl rfl (rai rfl) ?_
   refine k_nc ?_
   refine k_ret ?_
   refine c_ret ?_
   refine fx2r rfl (rv_a H 0 rfl rfl rfl ag55 sz55) (rv_t (v := .int _ _) rfl) ?_
   exact ⟨{ s with rf := rf }, rfl, H.clear, ⟨hr.now.later H.only (by simp), hr.last.later H.only (by simp), hr.wait.later H.only (by simp), hr.dirty.later H.only (by simp), hr.pend.later H.only (by simp), hf', hok.killed⟩⟩
  ·have hs : Nv.stops d = false := by simpa using hs
   obtain ⟨i, rfl⟩ : ∃ i : Nat, a = (i : Int) := ⟨a.toNat, by omega⟩
   have er : Nv.store d m i v = (Nv.put (Nv.stepped d) i v, 0) := by rw [Nv.store, if_pos hin, if_neg (by simp [hs]), Int.toNat_natCast]
   rw [er]
   simp only [hs, Bool.false_eq_true, if_false, Bool.not_false] at hS
   rw [refE]
   refine k_in (N := 51) Try.func71 rfl rfl rfl ?_
   refine k_sg ?_
   refine s_box H rfl rfl ?_
   intro p3 _ H'; clear H; have H := H'; clear H'
   refine s_al H rfl inf55 ?_
   intro p6 _ H'; clear H; have H := H'; clear H'
   refine s_run rfl rfl (rai rfl) ?_
   refine k_nc ?_
   refine k_seq ?_
   refine k_sg ?_
   refine s_run rfl rfl (rmi rfl) ?_
   refine s_run rfl rfl (r_lssF rfl rfl (by omega)) ?_
   refine s_run rfl rfl (rmb rfl) ?_
   refine s_run rfl (g_on 11 (by kernel_rfl) rfl) (rmi rfl) ?_
   refine s_run rfl (g_on 11 (by kernel_rfl) rfl) (r_fa0 rfl fo55_0) ?_
   refine s_run rfl (g_on 11 (by kernel_rfl) rfl) (r_lo H 1 rfl rfl rfl ag52) ?_
   refine s_run rfl (g_on 11 (by kernel_rfl) rfl) (r_len rfl Try.underlying52) ?_
   refine s_run rfl (g_on 11 (by kernel_rfl) rfl) (r_mul rfl rfl (wI (by omega))) ?_
   refine s_run rfl (g_on 11 (by kernel_rfl) rfl) (r_geqF rfl rfl (by omega)) ?_
   refine s_run rfl rfl (r_pkF (v := .bool _) rfl rfl) ?_
   refine k_nc ?_
   refine k_f rfl ?_
   refine k_skip ?_
   refine c_norm ?_
   refine k_sg ?_
   refine s_run rfl rfl (r_la H 1 rfl rfl rfl ag55 sz55) ?_
   refine s_call rfl (hS _ hr.fuse) (ca110 rfl) ?_
   rintro e W1 ⟨rf, rfl, H', hf'⟩
   refine ⟨_, rfl, ?_⟩
   have H := H.same H'; clear H'; simp only [refE, Nv.stepped]
   refine s_run rfl rfl (rmt rfl) ?_
   refine s_run rfl rfl (r_ext (v := .agg _) rfl rfl) ?_
   refine s_run rfl rfl (r_ext (v := .bool _) rfl rfl) ?_
   refine s_sw H 1 rfl rfl rfl rfl rfl rfl rfl sz55 ?_
   clear H; intro _ H; simp only [jA, jB, jC, jD, jE, jF, jG, jH, jI, jJ, jK, Nat.reduceAdd] at H
   refine s_run rfl rfl (rab rfl) ?_
   refine k_nc ?_
   refine k_seq ?_
   refine k_sg ?_
   refine s_run rfl rfl (rmb rfl) ?_
   refine s_run rfl rfl (r_notT rfl) ?_
   refine k_nc ?_
   refine k_f rfl ?_
   refine k_skip ?_
   refine c_norm ?_
   refine k_seq ?_
   refine k_trF mixed ?_; have H' := H.drew; clear H; have H := H'; clear H'
   refine tqh 0 rfl rfl rfl (fun _ hS => r_fa0 rfl fo55_0) trivial ?_
   refine tqh 3 rfl rfl rfl (fun _ hS => r_fa0 rfl fo55_3) trivial ?_
   refine t_up2 1 4 (by kernel_rfl) ?_ ?_
   ·refine up_mk rfl ?_
    refine s_run rfl rfl (r_lo H 1 rfl rfl rfl ag52) ?_
    refine k_nil ?_
    refine t_on trivial ?_
    refine t_up2 2 4 (by kernel_rfl) ?_ ?_
    ·refine up_mk rfl ?_
     refine s_call rfl (rLines s.A0 m _ d.cache _ (hr.now.nilF.later H.only (by simp)) (by omega) hm) (ca111 rfl) ?_
     rintro e W1 ⟨A1, b1, c1, rfl, hb1, H'⟩
     refine ⟨_, rfl, ?_⟩
     obtain rfl := hb1 (by omega); have H := H.more H'; clear H'
     refine k_nil ?_
     refine t_on trivial ?_
     refine t_up1 4 (by kernel_rfl) ?_
     refine up_mk rfl ?_
     refine s_run rfl rfl (r_lo H 2 rfl rfl rfl ag53) ?_
     refine k_nil ?_
     refine t_on trivial ?_
     refine tqh 6 rfl rfl rfl (fun _ hS => r_fa0 rfl fo55_0) trivial ?_
     refine t_up1 5 (by kernel_rfl) ?_
     refine up_mk rfl ?_
     refine s_call rfl (rFlags s.A3 m _ d.dirty _ (hr.dirty.nilF.later H.only (by simp)) (by omega) hm) (ca112 rfl) ?_
     rintro e W1 ⟨A2, b2, c2, rfl, hb2, H'⟩
     refine ⟨_, rfl, ?_⟩
     obtain rfl := hb2 (by omega); have H := H.more H'; clear H'
     refine k_nil ?_
     refine t_on trivial ?_
     refine t_up1 7 (by kernel_rfl) ?_
     refine up_mk rfl ?_
     refine s_st (u := .slice _ _ _) H 3 rfl rfl rfl rfl rfl rfl sz52 ?_
     clear H; intro _ H; simp only [jA, jB, jC, jD, jE, jF, jG, jH, jI, jJ, jK, Nat.reduceAdd] at H
     refine k_nil ?_
     refine t_on trivial ?_
     refine tqh 8 rfl rfl rfl (fun _ hS => r_fa0 rfl fo55_3) trivial ?_
     refine t_up1 9 (by kernel_rfl) ?_
     refine up_mk rfl ?_
     refine s_st (u := .slice _ _ _) H 3 rfl rfl rfl rfl rfl rfl sz53 ?_
     clear H; intro _ H; simp only [jA, jB, jC, jD, jE, jF, jG, jH, jI, jJ, jK, Nat.reduceAdd] at H
     refine k_nil ?_
     refine t_on trivial ?_
     refine t_done (by kernel_rfl) ?_
     refine c_norm ?_
     refine k_sg ?_
     refine s_run rfl rfl (r_fa0 rfl fo55_0) ?_
     refine s_run rfl rfl (r_lo H 3 rfl rfl rfl ag52) ?_
     refine s_run rfl rfl (rmi rfl) ?_
     refine s_run rfl rfl (r_quo rfl rfl (by omega) (wI (by omega))) ?_
     refine s_run rfl rfl (rmi rfl) ?_
     refine s_run rfl rfl (r_rem rfl rfl (by omega)) ?_
     refine s_run rfl rfl (rmi rfl) ?_
     refine s_run rfl rfl (r_ix0 (i := i / 8) rfl rfl (by omega) (by omega) Try.underlying52 sz124) ?_
     refine s_run rfl rfl (r_ia1 (i := i % 8) rfl rfl (by omega) (by omega) Try.underlying124 sz22) ?_
     refine s_sv (u := .int _ _) H 1 rfl rfl rfl rfl rfl (by omega) (fun _ => rfl) sz22 ?_
     clear H; intro _ H; simp only [jA, jB, jC, jD, jE, jF, jG, jH, jI, jJ, jK, Nat.reduceAdd] at H
     refine k_nc ?_
     refine k_sg ?_
     refine s_run rfl rfl (r_fa0 rfl fo55_3) ?_
     refine s_run rfl rfl (r_lo H 3 rfl rfl rfl ag53) ?_
     refine s_run rfl rfl (rmi rfl) ?_
     refine s_run rfl rfl (r_quo rfl rfl (by omega) (wI (by omega))) ?_
     refine s_run rfl rfl (r_ix1 (i := i / 8) rfl rfl (by omega) (by omega) Try.underlying53 sz4) ?_
     refine s_sv (u := .bool _) H 0 rfl rfl rfl rfl rfl (by omega) (fun _ => rfl) sz4 ?_
     clear H; intro _ H; simp only [jA, jB, jC, jD, jE, jF, jG, jH, jI, jJ, jK, Nat.reduceAdd] at H
     refine k_nc ?_
     refine k_sg ?_
     refine s_run rfl rfl (r_la H 3 rfl rfl rfl ag55 sz55) ?_
     refine s_sw H 2 rfl rfl rfl rfl rfl rfl rfl sz55 ?_
     clear H; intro _ H; simp only [jA, jB, jC, jD, jE, jF, jG, jH, jI, jJ, jK, Nat.reduceAdd] at H
     refine s_run rfl rfl (rai rfl) ?_
     refine k_nc ?_
     refine k_ret ?_
     refine fx2r rfl (rv_a H 2 rfl rfl rfl ag55 sz55) (rv_t (v := .int _ _) rfl) ?_
     have e1 : i / 8 * 8 + i % 8 = i := by omega
     rw [e1] at H
     refine ⟨⟨some ⟨b1, 0, none⟩, c1, s.A1, s.c1, s.A2, s.c2, some ⟨b2, 0, none⟩, c2, s.A4, s.c4, rf⟩, rfl, H.clear, ⟨?_, hr.last.later H.only (by simp), hr.wait.later H.only (by simp), ?_, hr.pend.later H.only (by simp), hf', hok.stepped.put _ _⟩⟩
     ·exact H.sees 1 rfl hF (m := 1) (fun _ => rfl) (fun _ => by simp)
     ·exact H.sees 0 rfl hF (m := 1) (fun _ => rfl) (fun _ => by simp)
    ·refine up_mk rfl ?_
     refine s_run rfl rfl (r_lo H 1 rfl rfl rfl ag53) ?_
     refine k_nil ?_
     refine t_on trivial ?_
     refine t_up1 2 (by kernel_rfl) ?_
     refine up_mk rfl ?_
     refine s_call rfl (rLines s.A0 m _ d.cache _ (hr.now.nilF.later H.only (by simp)) (by omega) hm) (ca111 rfl) ?_
     rintro e W1 ⟨A1, b1, c1, rfl, hb1, H'⟩
     refine ⟨_, rfl, ?_⟩
     obtain rfl := hb1 (by omega); have H := H.more H'; clear H'
     refine k_nil ?_
     refine t_on trivial ?_
     refine tqh 6 rfl rfl rfl (fun _ hS => r_fa0 rfl fo55_0) trivial ?_
     refine t_up1 5 (by kernel_rfl) ?_
     refine up_mk rfl ?_
     refine s_call rfl (rFlags s.A3 m _ d.dirty _ (hr.dirty.nilF.later H.only (by simp)) (by omega) hm) (ca112 rfl) ?_
     rintro e W1 ⟨A2, b2, c2, rfl, hb2, H'⟩
     refine ⟨_, rfl, ?_⟩
     obtain rfl := hb2 (by omega); have H := H.more H'; clear H'
     refine k_nil ?_
     refine t_on trivial ?_
     refine t_up1 7 (by kernel_rfl) ?_
     refine up_mk rfl ?_
     refine s_st (u := .slice _ _ _) H 3 rfl rfl rfl rfl rfl rfl sz52 ?_
     clear H; intro _ H; simp only [jA, jB, jC, jD, jE, jF, jG, jH, jI, jJ, jK, Nat.reduceAdd] at H
     refine k_nil ?_
     refine t_on trivial ?_
     refine tqh 8 rfl rfl rfl (fun _ hS => r_fa0 rfl fo55_3) trivial ?_
     refine t_up1 9 (by kernel_rfl) ?_
     refine up_mk rfl ?_
     refine s_st (u := .slice _ _ _) H 3 rfl rfl rfl rfl rfl rfl sz53 ?_
     clear H; intro _ H; simp only [jA, jB, jC, jD, jE, jF, jG, jH, jI, jJ, jK, Nat.reduceAdd] at H
     refine k_nil ?_
     refine t_on trivial ?_
     refine t_done (by kernel_rfl) ?_
     refine c_norm ?_
     refine k_sg ?_
     refine s_run rfl rfl (r_fa0 rfl fo55_0) ?_
     refine s_run rfl rfl (r_lo H 3 rfl rfl rfl ag52) ?_
     refine s_run rfl rfl (rmi rfl) ?_
     refine s_run rfl rfl (r_quo rfl rfl (by omega) (wI (by omega))) ?_
     refine s_run rfl rfl (rmi rfl) ?_
     refine s_run rfl rfl (r_rem rfl rfl (by omega)) ?_
     refine s_run rfl rfl (rmi rfl) ?_
     refine s_run rfl rfl (r_ix0 (i := i / 8) rfl rfl (by omega) (by omega) Try.underlying52 sz124) ?_
     refine s_run rfl rfl (r_ia1 (i := i % 8) rfl rfl (by omega) (by omega) Try.underlying124 sz22) ?_
     refine s_sv (u := .int _ _) H 1 rfl rfl rfl rfl rfl (by omega) (fun _ => rfl) sz22 ?_
     clear H; intro _ H; simp only [jA, jB, jC, jD, jE, jF, jG, jH, jI, jJ, jK, Nat.reduceAdd] at H
     refine k_nc ?_
     refine k_sg ?_
     refine s_run rfl rfl (r_fa0 rfl fo55_3) ?_
     refine s_run rfl rfl (r_lo H 3 rfl rfl rfl ag53) ?_
     refine s_run rfl rfl (rmi rfl) ?_
     refine s_run rfl rfl (r_quo rfl rfl (by omega) (wI (by omega))) ?_
     refine s_run rfl rfl (r_ix1 (i := i / 8) rfl rfl (by omega) (by omega) Try.underlying53 sz4) ?_
     refine s_sv (u := .bool _) H 0 rfl rfl rfl rfl rfl (by omega) (fun _ => rfl) sz4 ?_
     clear H; intro _ H; simp only [jA, jB, jC, jD, jE, jF, jG, jH, jI, jJ, jK, Nat.reduceAdd] at H
     refine k_nc ?_
     refine k_sg ?_
     refine s_run rfl rfl (r_la H 3 rfl rfl rfl ag55 sz55) ?_
     refine s_sw H 2 rfl rfl rfl rfl rfl rfl rfl sz55 ?_
     clear H; intro _ H; simp only [jA, jB, jC, jD, jE, jF, jG, jH, jI, jJ, jK, Nat.reduceAdd] at H
     refine s_run rfl rfl (rai rfl) ?_
     refine k_nc ?_
     refine k_ret ?_
     refine fx2r rfl (rv_a H 2 rfl rfl rfl ag55 sz55) (rv_t (v := .int _ _) rfl) ?_
     have e1 : i / 8 * 8 + i % 8 = i := by omega
     rw [e1] at H
     refine ⟨⟨some ⟨b1, 0, none⟩, c1, s.A1, s.c1, s.A2, s.c2, some ⟨b2, 0, none⟩, c2, s.A4, s.c4, rf⟩, rfl, H.clear, ⟨?_, hr.last.later H.only (by simp), hr.wait.later H.only (by simp), ?_, hr.pend.later H.only (by simp), hf', hok.stepped.put _ _⟩⟩
     ·exact H.sees 1 rfl hF (m := 1) (fun _ => rfl) (fun _ => by simp)
     ·exact H.sees 0 rfl hF (m := 1) (fun _ => rfl) (fun _ => by simp)
   ·refine up_mk rfl ?_
    refine s_run rfl rfl (r_lo H 1 rfl rfl rfl ag53) ?_
    refine k_nil ?_
    refine t_on trivial ?_
    refine t_up1 1 (by kernel_rfl) ?_
    refine up_mk rfl ?_
    refine s_run rfl rfl (r_lo H 1 rfl rfl rfl ag52) ?_
    refine k_nil ?_
    refine t_on trivial ?_
    refine t_up1 2 (by kernel_rfl) ?_
    refine up_mk rfl ?_
    refine s_call rfl (rLines s.A0 m _ d.cache _ (hr.now.nilF.later H.only (by simp)) (by omega) hm) (ca111 rfl) ?_
    rintro e W1 ⟨A1, b1, c1, rfl, hb1, H'⟩
    refine ⟨_, rfl, ?_⟩
    obtain rfl := hb1 (by omega); have H := H.more H'; clear H'
    refine k_nil ?_
    refine t_on trivial ?_
    refine tqh 6 rfl rfl rfl (fun _ hS => r_fa0 rfl fo55_0) trivial ?_
    refine t_up1 5 (by kernel_rfl) ?_
    refine up_mk rfl ?_
    refine s_call rfl (rFlags s.A3 m _ d.dirty _ (hr.dirty.nilF.later H.only (by simp)) (by omega) hm) (ca112 rfl) ?_
    rintro e W1 ⟨A2, b2, c2, rfl, hb2, H'⟩
    refine ⟨_, rfl, ?_⟩
    obtain rfl := hb2 (by omega); have H := H.more H'; clear H'
    refine k_nil ?_
    refine t_on trivial ?_
    refine t_up1 7 (by kernel_rfl) ?_
    refine up_mk rfl ?_
    refine s_st (u := .slice _ _ _) H 3 rfl rfl rfl rfl rfl rfl sz52 ?_
    clear H; intro _ H; simp only [jA, jB, jC, jD, jE, jF, jG, jH, jI, jJ, jK, Nat.reduceAdd] at H
    refine k_nil ?_
    refine t_on trivial ?_
    refine tqh 8 rfl rfl rfl (fun _ hS => r_fa0 rfl fo55_3) trivial ?_
    refine t_up1 9 (by kernel_rfl) ?_
    refine up_mk rfl ?_
    refine s_st (u := .slice _ _ _) H 3 rfl rfl rfl rfl rfl rfl sz53 ?_
    clear H; intro _ H; simp only [jA, jB, jC, jD, jE, jF, jG, jH, jI, jJ, jK, Nat.reduceAdd] at H
    refine k_nil ?_
    refine t_on trivial ?_
    refine t_done (by kernel_rfl) ?_
    refine c_norm ?_
    refine k_sg ?_
    refine s_run rfl rfl (r_fa0 rfl fo55_0) ?_
    refine s_run rfl rfl (r_lo H 3 rfl rfl rfl ag52) ?_
    refine s_run rfl rfl (rmi rfl) ?_
    refine s_run rfl rfl (r_quo rfl rfl (by omega) (wI (by omega))) ?_
    refine s_run rfl rfl (rmi rfl) ?_
    refine s_run rfl rfl (r_rem rfl rfl (by omega)) ?_
    refine s_run rfl rfl (rmi rfl) ?_
    refine s_run rfl rfl (r_ix0 (i := i / 8) rfl rfl (by omega) (by omega) Try.underlying52 sz124) ?_
    refine s_run rfl rfl (r_ia1 (i := i % 8) rfl rfl (by omega) (by omega) Try.underlying124 sz22) ?_
    refine s_sv (u := .int _ _) H 1 rfl rfl rfl rfl rfl (by omega) (fun _ => rfl) sz22 ?_
    clear H; intro _ H; simp only [jA, jB, jC, jD, jE, jF, jG, jH, jI, jJ, jK, Nat.reduceAdd] at H
    refine k_nc ?_
    refine k_sg ?_
    refine s_run rfl rfl (r_fa0 rfl fo55_3) ?_
    refine s_run rfl rfl (r_lo H 3 rfl rfl rfl ag53) ?_
    refine s_run rfl rfl (rmi rfl) ?_
    refine s_run rfl rfl (r_quo rfl rfl (by omega) (wI (by omega))) ?_
    refine s_run rfl rfl (r_ix1 (i := i / 8) rfl rfl (by omega) (by omega) Try.underlying53 sz4) ?_
    refine s_sv (u := .bool _) H 0 rfl rfl rfl rfl rfl (by omega) (fun _ => rfl) sz4 ?_
    clear H; intro _ H; simp only [jA, jB, jC, jD, jE, jF, jG, jH, jI, jJ, jK, Nat.reduceAdd] at H
    refine k_nc ?_
    refine k_sg ?_
    refine s_run rfl rfl (r_la H 3 rfl rfl rfl ag55 sz55) ?_
    refine s_sw H 2 rfl rfl rfl rfl rfl rfl rfl sz55 ?_
    clear H; intro _ H; simp only [jA, jB, jC, jD, jE, jF, jG, jH, jI, jJ, jK, Nat.reduceAdd] at H
    refine s_run rfl rfl (rai rfl) ?_
    refine k_nc ?_
    refine k_ret ?_
    refine fx2r rfl (rv_a H 2 rfl rfl rfl ag55 sz55) (rv_t (v := .int _ _) rfl) ?_
    have e1 : i / 8 * 8 + i % 8 = i := by omega
    rw [e1] at H
    refine ⟨⟨some ⟨b1, 0, none⟩, c1, s.A1, s.c1, s.A2, s.c2, some ⟨b2, 0, none⟩, c2, s.A4, s.c4, rf⟩, rfl, H.clear, ⟨?_, hr.last.later H.only (by simp), hr.wait.later H.only (by simp), ?_, hr.pend.later H.only (by simp), hf', hok.stepped.put _ _⟩⟩
    ·exact H.sees 1 rfl hF (m := 1) (fun _ => rfl) (fun _ => by simp)
    ·exact H.sees 0 rfl hF (m := 1) (fun _ => rfl) (fun _ => by simp)
 ·have er : Nv.store d m a v = (d, 2) := by rw [Nv.store, if_neg hin]
  rw [er, refE]
  by_cases h1 : a < 0
  ·refine k_in (N := 51) Try.func71 rfl rfl rfl ?_
   refine k_sg ?_
   refine s_box H rfl rfl ?_
   intro p3 _ H'; clear H; have H := H'; clear H'
   refine s_al H rfl inf55 ?_
   intro p6 _ H'; clear H; have H := H'; clear H'
   refine s_run rfl rfl (rai rfl) ?_
   refine k_nc ?_
   refine k_seq ?_
   refine k_sg ?_
   refine s_run rfl rfl (rmi rfl) ?_
   refine s_run rfl rfl (r_lssT rfl rfl (by omega)) ?_
   refine s_run rfl rfl (rmb rfl) ?_
   refine s_off rfl (g_off 11 (by kernel_rfl) rfl rfl) ?_
   refine s_off rfl (g_off 11 (by kernel_rfl) rfl rfl) ?_
   refine s_off rfl (g_off 11 (by kernel_rfl) rfl rfl) ?_
   refine s_off rfl (g_off 11 (by kernel_rfl) rfl rfl) ?_
   refine s_off rfl (g_off 11 (by kernel_rfl) rfl rfl) ?_
   refine s_off rfl (g_off 11 (by kernel_rfl) rfl rfl) ?_
   refine s_run rfl rfl (r_pkT (v := .bool _) rfl rfl) ?_
   refine k_nc ?_
   refine k_t rfl ?_
   refine k_sg ?_
   refine s_run rfl rfl (r_la H 1 rfl rfl rfl ag55 sz55) ?_
   refine s_sw H 0 rfl rfl rfl rfl rfl rfl rfl sz55 ?_
   clear H; intro _ H; simp only [jA, jB, jC, jD, jE, jF, jG, jH, jI, jJ, jK, Nat.reduceAdd] at H
   refine s_run rfl rfl (rai rfl) ?_
   refine k_nc ?_
   refine k_ret ?_
   refine c_ret ?_
   refine fx2r rfl (rv_a H 0 rfl rfl rfl ag55 sz55) (rv_t (v := .int _ _) rfl) ?_
   exact ⟨s, rfl, H.clear, hr.later H.only (by simp)⟩
  ·refine k_in (N := 51) Try.func71 rfl rfl rfl ?_
   refine k_sg ?_
   refine s_box H rfl rfl ?_
   intro p3 _ H'; clear H; have H := H'; clear H'
   refine s_al H rfl inf55 ?_
   intro p6 _ H'; clear H; have H := H'; clear H'
   refine s_run rfl rfl (rai rfl) ?_
   refine k_nc ?_
   refine k_seq ?_
   refine k_sg ?_
   refine s_run rfl rfl (rmi rfl) ?_
   refine s_run rfl rfl (r_lssF rfl rfl (by omega)) ?_
   refine s_run rfl rfl (rmb rfl) ?_
   refine s_run rfl (g_on 11 (by kernel_rfl) rfl) (rmi rfl) ?_
   refine s_run rfl (g_on 11 (by kernel_rfl) rfl) (r_fa0 rfl fo55_0) ?_
   refine s_run rfl (g_on 11 (by kernel_rfl) rfl) (r_lo H 1 rfl rfl rfl ag52) ?_
   refine s_run rfl (g_on 11 (by kernel_rfl) rfl) (r_len rfl Try.underlying52) ?_
   refine s_run rfl (g_on 11 (by kernel_rfl) rfl) (r_mul rfl rfl (wI (by omega))) ?_
   refine s_run rfl (g_on 11 (by kernel_rfl) rfl) (r_geqT rfl rfl (by omega)) ?_
   refine s_run rfl rfl (r_pkF (v := .bool _) rfl rfl) ?_
   refine k_nc ?_
   refine k_t rfl ?_
   refine k_sg ?_
   refine s_run rfl rfl (r_la H 1 rfl rfl rfl ag55 sz55) ?_
   refine s_sw H 0 rfl rfl rfl rfl rfl rfl rfl sz55 ?_
   clear H; intro _ H; simp only [jA, jB, jC, jD, jE, jF, jG, jH, jI, jJ, jK, Nat.reduceAdd] at H
   refine s_run rfl rfl (rai rfl) ?_
   refine k_nc ?_
   refine k_ret ?_
   refine c_ret ?_
   refine fx2r rfl (rv_a H 0 rfl rfl rfl ag55 sz55) (rv_t (v := .int _ _) rfl) ?_
   exact ⟨s, rfl, H.clear, hr.later H.only (by simp)⟩
end Go.Proofs.Ytmekhdclnhhhbaa
end
