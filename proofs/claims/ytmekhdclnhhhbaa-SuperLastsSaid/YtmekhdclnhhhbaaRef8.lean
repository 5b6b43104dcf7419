/- The document's Load, New. -/
import Derived.Test.YtmekhdclnhhhbaaRef7
namespace Go.Proofs.Ytmekhdclnhhhbaa
open Go.RowKit
set_option linter.unusedSimpArgs false
set_option linter.unusedVariables false
def flat (zs : List Int) (k : Nat) : List Int := zs.take k ++ List.replicate (8 * ((k + 7) / 8) - k) 0
theorem flat_len (zs : List Int) (k : Nat) (h : k ≤ zs.length) : (flat zs k).length = 8 * ((k + 7) / 8) := by simp [flat]; omega
theorem set_at (xs : List Int) (k r : Nat) (z : Int) (h : xs.length = k) (hr : 0 < r) : (xs ++ List.replicate r 0).set k z = xs ++ [z] ++ List.replicate (r - 1) 0 := by
  obtain ⟨r, rfl⟩ : ∃ q, r = q + 1 := ⟨r - 1, by omega⟩
  rw [List.set_append_right _ _ (by omega), h, Nat.sub_self, List.replicate_succ, List.set_cons_zero]
  simp
theorem flat_next0 {zs : List Int} {k : Nat} {z : Int} (hz : zs[k]? = some z) (h8 : k % 8 = 0) : (flat zs k ++ [0, 0, 0, 0, 0, 0, 0, 0]).set k z = flat zs (k + 1) := by
  have hk : k < zs.length := (List.getElem?_eq_some_iff.1 hz).1
  have e1 : flat zs k = zs.take k := by unfold flat; rw [show 8 * ((k + 7) / 8) - k = 0 from by omega]; simp
  rw [e1]
  have := set_at (zs.take k) k 8 z (by simp; omega) (by omega)
  rw [show List.replicate 8 (0 : Int) = [0, 0, 0, 0, 0, 0, 0, 0] from rfl] at this
  rw [this]
  unfold flat
  rw [take_succ_of hz, show 8 * ((k + 1 + 7) / 8) - (k + 1) = 7 from by omega]
theorem flat_next1 {zs : List Int} {k : Nat} {z : Int} (hz : zs[k]? = some z) (h8 : ¬ k % 8 = 0) : (flat zs k).set k z = flat zs (k + 1) := by
  have hk : k < zs.length := (List.getElem?_eq_some_iff.1 hz).1
  unfold flat
  rw [set_at (zs.take k) k _ z (by simp; omega) (by omega), take_succ_of hz]
  congr 2
  omega
def nilDev : List Value := [.slice none 0 0, .slice none 0 0, .slice none 0 0, .slice none 0 0, .slice none 0 0, .int .i64 0, .int .i64 0, .bool false]
theorem rLoad (A : Option Addr) (n c : Nat) (zs : List Int) (F : List Nat) (w : World) (hz : Sees (Value.int .u64) w [] A zs) (hl : zs.length = n) (hn : n ≤ 500000) (hF : ∀ i ∈ F, i < w.heap.size) :
    Calls Try.prog 44 [.slice A n c].toArray w fun e w' => ∃ s', e = .returned (.agg (refCells s' (Nv.load (zs ++ List.replicate (8 * ((n + 7) / 8) - n) 0) ((n + 7) / 8)) ((n + 7) / 8)).toArray) ∧ Heap w [] [] w' ∧ RefOk w' F s' (Nv.load (zs ++ List.replicate (8 * ((n + 7) / 8) - n) 0) ((n + 7) / 8)) ((n + 7) / 8) := by
  have H := Heap.nil w
  refine k_in (N := 55) Try.func44 rfl rfl rfl ?_
  refine k_seq ?_
  refine k_rg ?_
  refine s_al H rfl inf55 ?_
  intro p2 _ H'; clear H; have H := H'; clear H'
  refine k_nil ?_
  refine c_norm ?_
  refine k_seq ?_
  refine k_rg ?_
  refine s_al H rfl inf55 ?_
  intro p3 _ H'; clear H; have H := H'; clear H'
  refine k_nil ?_
  refine c_norm ?_
  refine k_seq ?_
  refine k_seq ?_
  refine k_rg ?_
  refine s_run rfl rfl (r_as (v := .int _ _) rfl) ?_
  refine k_nil ?_
  refine c_norm ?_
  refine k_b ?_
  refine k_loop (fun q f W => ∃ (k : Nat) (B : Option Addr) (cb : Nat), k ≤ n ∧ q = n - k ∧ (k ≠ 0 → ∃ b, B = some ⟨b, 0, none⟩) ∧ f 0 = .slice A n c ∧ f 2 = ptr p2 ∧ f 3 = ptr p3 ∧ f 4 = .int .i64 k ∧ Heap w [] [ownN 8 (.slice B ((k + 7) / 8) cb) ((k + 7) / 8) ((flat zs k).map (Value.int .u64)) 124, blk p3 [.slice B ((k + 7) / 8) cb, .slice none 0 0, .slice none 0 0, .slice none 0 0, .slice none 0 0, .int .i64 0, .int .i64 0, .bool false] 55, blk p2 nilDev 55] W) n ⟨0, none, 0, by omega, rfl, fun h => absurd rfl h, rfl, rfl, rfl, rfl, by rw [show flat zs 0 = [] from rfl]; exact H.own_nil 8 124⟩ ?_
  clear H
  rintro q f W ⟨k, B, cb, hk, rfl, hB, h0, h2, h3, h4, H⟩
  obtain ⟨f, rfl⟩ := live4 h0 h2 h3 h4
  clear h0 h2 h3 h4
  by_cases hlt : k < n
  · have hzk := getE (xs := zs) (i := k) (by omega)
    obtain ⟨b0, o0, rfl, _, hr⟩ := hz (by omega)
    have hcell := hr k _ hzk
    have hfl := flat_len zs k (by omega)
    have hfl1 := flat_len zs (k + 1) (by omega)
    by_cases h8 : k % 8 = 0
    · have hnx := flat_next0 hzk h8
      have em : (k + 7) / 8 + 1 = (k + 1 + 7) / 8 := by omega
      have hlen8 : (flat zs k ++ [0, 0, 0, 0, 0, 0, 0, 0]).length = 8 * ((k + 7) / 8) + 8 := by rw [List.length_append, hfl]; rfl
      refine k_seq ?_
      refine k_seq ?_
      refine k_rg ?_
      refine s_run rfl rfl (r_mv (v := .int _ _) rfl) ?_
      refine s_run rfl rfl (r_mv (v := .slice _ _ _) rfl) ?_
      refine s_run rfl rfl (r_len rfl Try.underlying25) ?_
      refine s_run rfl rfl (r_lssT rfl rfl (by omega)) ?_
      refine k_nil ?_
      refine c_norm ?_
      refine k_t rfl ?_
      refine k_skip ?_
      refine c_norm ?_
      refine k_seq ?_
      refine k_b ?_
      refine k_seq ?_
      refine k_seq ?_
      refine k_rg ?_
      refine s_run rfl rfl (r_mv (v := .int _ _) rfl) ?_
      refine s_run rfl rfl (r_rem rfl rfl (by omega)) ?_
      refine s_run rfl rfl (r_eqlT rfl rfl (by omega)) ?_
      refine k_nil ?_
      refine c_norm ?_
      refine k_t rfl ?_
      refine k_rg ?_
      refine s_run rfl rfl (r_fa0 rfl fo55_0) ?_
      refine s_run rfl rfl (r_lo H 1 rfl rfl rfl ag52) ?_
      refine s_run rfl rfl (r_bd (bd124 ) rfl) ?_
      refine s_appN (enc := (Value.int .u64)) (zs := [0, 0, 0, 0, 0, 0, 0, 0]) H 0 rfl rfl rfl rfl (fun _ => rfl) (by omega) (by kernel_rfl) rfl rfl rfl (by omega) Try.underlying52 inf124 rfl ?_
      intro _ bn cn _ H'; simp only [List.set_cons_zero, List.set_cons_succ, List.take_succ_cons, List.take_zero, List.drop_succ_cons, List.drop_zero, List.cons_append, List.nil_append, List.append_nil, List.length_cons, List.length_nil, Nat.reduceAdd] at H'; clear H; have H := H'; clear H'
      refine s_run rfl rfl (r_fa0 rfl fo55_0) ?_
      refine s_st (u := .slice _ _ _) H 1 rfl rfl rfl rfl rfl rfl sz52 ?_
      intro _ H'; simp only [List.set_cons_zero, List.set_cons_succ, List.take_succ_cons, List.take_zero, List.drop_succ_cons, List.drop_zero, List.cons_append, List.nil_append, List.append_nil, List.length_cons, List.length_nil, Nat.reduceAdd] at H'; clear H; have H := H'; clear H'
      refine k_nil ?_
      refine c_norm ?_
      refine k_qt 12 mixed (by kernel_rfl) H rfl rfl ?_
      refine q_run rfl rfl (fun _ H => r_fa0 rfl fo55_0) ?_
      refine q_run rfl rfl (fun _ H => r_lo H 1 rfl rfl rfl ag52) ?_
      refine q_run rfl rfl (fun _ H => r_mv (v := .int _ _) rfl) ?_
      refine q_run rfl rfl (fun _ H => r_quo rfl rfl (by omega) (wI (by omega))) ?_
      refine q_run rfl rfl (fun _ H => r_mv (v := .int _ _) rfl) ?_
      refine q_run rfl rfl (fun _ H => r_rem rfl rfl (by omega)) ?_
      refine q_run rfl rfl (fun _ H => r_mv (v := .slice _ _ _) rfl) ?_
      refine q_run rfl rfl (fun _ H => r_mv (v := .int _ _) rfl) ?_
      refine q_run rfl rfl (fun _ H => r_ix1o rfl rfl rfl (by omega) Try.underlying25 sz22) ?_
      refine q_run rfl rfl (fun _ H => r_lr H rfl hcell (by simp) ag22) ?_
      refine q_run rfl rfl (fun _ H => r_ix0 (i := k / 8) rfl rfl (by omega) (by omega) Try.underlying52 sz124) ?_
      refine q_run rfl rfl (fun _ H => r_ia1 (i := k % 8) rfl rfl (by omega) (by omega) Try.underlying124 sz22) ?_
      refine q_nil ?_
      intro _ H'; clear H; have H := H'; clear H'
      refine s_so (enc := Value.int .u64) (xs := flat zs k ++ [0, 0, 0, 0, 0, 0, 0, 0]) (z := zs.getD k default) H 0 rfl rfl rfl rfl rfl (by rw [hlen8]; omega) rfl sz22 ?_
      intro _ H'; simp only [List.set_cons_zero, List.set_cons_succ, List.take_succ_cons, List.take_zero, List.drop_succ_cons, List.drop_zero, List.cons_append, List.nil_append, List.append_nil, List.length_cons, List.length_nil, Nat.reduceAdd] at H'; clear H; have H := H'; clear H'
      refine k_nil ?_
      refine b_norm ?_
      refine c_norm ?_
      refine k_rg ?_
      refine s_run rfl rfl (r_mv (v := .int _ _) rfl) ?_
      refine s_run rfl rfl (r_add rfl rfl (wI (by omega))) ?_
      refine s_run rfl rfl (r_as (v := .int _ _) rfl) ?_
      refine k_nil ?_
      refine c_round ?_
      have e1 : k / 8 * 8 + k % 8 = k := by omega
      rw [e1, hnx] at H
      refine ⟨_, _, ?_, rfl, k + 1, some ⟨bn, 0, none⟩, cn, by omega, rfl, fun _ => ⟨bn, rfl⟩, rfl, rfl, rfl, rfl, ?_⟩
      · omega
      · rw [← em]; exact H
    · have hnx := flat_next1 hzk h8
      obtain ⟨b, rfl⟩ := hB (by omega)
      have em : (k + 7) / 8 = (k + 1 + 7) / 8 := by omega
      refine k_seq ?_
      refine k_seq ?_
      refine k_rg ?_
      refine s_run rfl rfl (r_mv (v := .int _ _) rfl) ?_
      refine s_run rfl rfl (r_mv (v := .slice _ _ _) rfl) ?_
      refine s_run rfl rfl (r_len rfl Try.underlying25) ?_
      refine s_run rfl rfl (r_lssT rfl rfl (by omega)) ?_
      refine k_nil ?_
      refine c_norm ?_
      refine k_t rfl ?_
      refine k_skip ?_
      refine c_norm ?_
      refine k_seq ?_
      refine k_b ?_
      refine k_seq ?_
      refine k_seq ?_
      refine k_rg ?_
      refine s_run rfl rfl (r_mv (v := .int _ _) rfl) ?_
      refine s_run rfl rfl (r_rem rfl rfl (by omega)) ?_
      refine s_run rfl rfl (r_eqlF rfl rfl (by omega)) ?_
      refine k_nil ?_
      refine c_norm ?_
      refine k_f rfl ?_
      refine k_skip ?_
      refine c_norm ?_
      refine k_qt 12 mixed (by kernel_rfl) H rfl rfl ?_
      refine q_run rfl rfl (fun _ H => r_fa0 rfl fo55_0) ?_
      refine q_run rfl rfl (fun _ H => r_lo H 1 rfl rfl rfl ag52) ?_
      refine q_run rfl rfl (fun _ H => r_mv (v := .int _ _) rfl) ?_
      refine q_run rfl rfl (fun _ H => r_quo rfl rfl (by omega) (wI (by omega))) ?_
      refine q_run rfl rfl (fun _ H => r_mv (v := .int _ _) rfl) ?_
      refine q_run rfl rfl (fun _ H => r_rem rfl rfl (by omega)) ?_
      refine q_run rfl rfl (fun _ H => r_mv (v := .slice _ _ _) rfl) ?_
      refine q_run rfl rfl (fun _ H => r_mv (v := .int _ _) rfl) ?_
      refine q_run rfl rfl (fun _ H => r_ix1o rfl rfl rfl (by omega) Try.underlying25 sz22) ?_
      refine q_run rfl rfl (fun _ H => r_lr H rfl hcell (by simp) ag22) ?_
      refine q_run rfl rfl (fun _ H => r_ix0 (i := k / 8) rfl rfl (by omega) (by omega) Try.underlying52 sz124) ?_
      refine q_run rfl rfl (fun _ H => r_ia1 (i := k % 8) rfl rfl (by omega) (by omega) Try.underlying124 sz22) ?_
      refine q_nil ?_
      intro _ H'; clear H; have H := H'; clear H'
      refine s_so (z := zs.getD k default) H 0 rfl rfl rfl rfl rfl (by rw [hfl]; omega) rfl sz22 ?_
      intro _ H'; simp only [List.set_cons_zero, List.set_cons_succ, List.take_succ_cons, List.take_zero, List.drop_succ_cons, List.drop_zero, List.cons_append, List.nil_append, List.append_nil, List.length_cons, List.length_nil, Nat.reduceAdd] at H'; clear H; have H := H'; clear H'
      refine k_nil ?_
      refine b_norm ?_
      refine c_norm ?_
      refine k_rg ?_
      refine s_run rfl rfl (r_mv (v := .int _ _) rfl) ?_
      refine s_run rfl rfl (r_add rfl rfl (wI (by omega))) ?_
      refine s_run rfl rfl (r_as (v := .int _ _) rfl) ?_
      refine k_nil ?_
      refine c_round ?_
      have e1 : k / 8 * 8 + k % 8 = k := by omega
      rw [e1, hnx] at H
      refine ⟨_, _, ?_, rfl, k + 1, some ⟨b, 0, none⟩, cb, by omega, rfl, fun _ => ⟨b, rfl⟩, rfl, rfl, rfl, rfl, ?_⟩
      · omega
      · rw [← em]; exact H
  · obtain rfl : k = n := by omega
    have hfin : flat zs k = zs ++ List.replicate (8 * ((k + 7) / 8) - k) 0 := by unfold flat; rw [List.take_of_length_le (by omega)]
    have hfl := flat_len zs k (by omega)
    rw [← hfin]
    generalize flat zs k = fz at *
    have hq : (k + 7) / 8 ≤ 100000 := by omega
    generalize (k + 7) / 8 = m at *
    obtain ⟨b, hb, hlb, H⟩ := own_vecN (by omega) H
    have HB := H
    have hnd := HB.nd
    clear H
    have H := Heap.start HB.drop.ents
    generalize hG : ids [blk p3 [.slice B m cb, .slice none 0 0, .slice none 0 0, .slice none 0 0, .slice none 0 0, .int .i64 0, .int .i64 0, .bool false] 55, blk p2 nilDev 55] = G at H
    have hS : Sees (Value.int .u64) W G B fz := by
      intro h0
      refine ⟨b, 0, hb (by omega), ?_, HB.reads0 0 rfl⟩
      subst hG
      intro hm
      rw [ids_cons] at hnd
      exact (List.nodup_append.1 hnd).2.2 b (by simp [vec, h0]) b hm rfl
    have H := H.own_nil 8 124
    refine k_seq ?_
    refine k_seq ?_
    refine k_rg ?_
    refine s_run rfl rfl (r_mv (v := .int _ _) rfl) ?_
    refine s_run rfl rfl (r_mv (v := .slice _ _ _) rfl) ?_
    refine s_run rfl rfl (r_len rfl Try.underlying25) ?_
    refine s_run rfl rfl (r_lssF rfl rfl (by omega)) ?_
    refine k_nil ?_
    refine c_norm ?_
    refine k_f rfl ?_
    refine k_exit ?_
    refine c_exit ?_
    refine c_exit ?_
    refine b_hit ?_
    refine c_norm ?_
    refine k_seq ?_
    refine k_rg ?_
    refine s_run rfl rfl (r_fa0 rfl fo55_1) ?_
    refine s_run rfl rfl (r_lo H 1 rfl rfl rfl ag52) ?_
    refine s_run rfl rfl (r_fa0 rfl fo55_0) ?_
    refine s_run rfl rfl (r_lo H 1 rfl rfl rfl ag52) ?_
    refine s_apsN (enc := (Value.int .u64)) (xs := []) H 0 rfl rfl rfl rfl (hS) (by omega) (fun _ => rfl) (by omega) (by omega) Try.underlying52 inf124 rfl ?_
    intro A1 c1 _ H'; simp only [List.set_cons_zero, List.set_cons_succ, List.take_succ_cons, List.take_zero, List.drop_succ_cons, List.drop_zero, List.cons_append, List.nil_append, List.append_nil, List.length_cons, List.length_nil, Nat.reduceAdd] at H'; clear H; have H := H'; clear H'
    refine s_run rfl rfl (r_fa0 rfl fo55_1) ?_
    refine s_st (u := .slice _ _ _) H 1 rfl rfl rfl rfl rfl rfl sz52 ?_
    intro _ H'; simp only [List.set_cons_zero, List.set_cons_succ, List.take_succ_cons, List.take_zero, List.drop_succ_cons, List.drop_zero, List.cons_append, List.nil_append, List.append_nil, List.length_cons, List.length_nil, Nat.reduceAdd] at H'; clear H; have H := H'; clear H'
    refine k_nil ?_
    refine c_norm ?_
    refine k_seq ?_
    refine k_rg ?_
    refine s_run rfl rfl (r_fa0 rfl fo55_0) ?_
    refine s_run rfl rfl (r_lo H 1 rfl rfl rfl ag52) ?_
    refine s_run rfl rfl (r_len rfl Try.underlying52) ?_
    refine s_mkN (Value.int .u64) 0 8 (m := m) H rfl rfl rfl (by omega) (by omega) (by omega) Try.underlying52 inf124 rfl (by omega) ?_
    intro bw _ H'; clear H; have H := H'; clear H'
    refine s_run rfl rfl (r_fa0 rfl fo55_2) ?_
    refine s_st (u := .slice _ _ _) H 2 rfl rfl rfl rfl rfl rfl sz52 ?_
    intro _ H'; simp only [List.set_cons_zero, List.set_cons_succ, List.take_succ_cons, List.take_zero, List.drop_succ_cons, List.drop_zero, List.cons_append, List.nil_append, List.append_nil, List.length_cons, List.length_nil, Nat.reduceAdd] at H'; clear H; have H := H'; clear H'
    refine k_nil ?_
    refine c_norm ?_
    refine k_seq ?_
    refine k_rg ?_
    refine s_run rfl rfl (r_fa0 rfl fo55_0) ?_
    refine s_run rfl rfl (r_lo H 2 rfl rfl rfl ag52) ?_
    refine s_run rfl rfl (r_len rfl Try.underlying52) ?_
    refine s_mk Value.bool false (m := m) H rfl rfl rfl (by omega) (by omega) (by omega) Try.underlying53 inf4 rfl ?_
    intro bd _ H'; clear H; have H := H'; clear H'
    refine s_run rfl rfl (r_fa0 rfl fo55_3) ?_
    refine s_st (u := .slice _ _ _) H 3 rfl rfl rfl rfl rfl rfl sz53 ?_
    intro _ H'; simp only [List.set_cons_zero, List.set_cons_succ, List.take_succ_cons, List.take_zero, List.drop_succ_cons, List.drop_zero, List.cons_append, List.nil_append, List.append_nil, List.length_cons, List.length_nil, Nat.reduceAdd] at H'; clear H; have H := H'; clear H'
    refine k_nil ?_
    refine c_norm ?_
    refine k_seq ?_
    refine k_rg ?_
    refine s_run rfl rfl (r_fa0 rfl fo55_0) ?_
    refine s_run rfl rfl (r_lo H 3 rfl rfl rfl ag52) ?_
    refine s_run rfl rfl (r_len rfl Try.underlying52) ?_
    refine s_mk Value.bool false (m := m) H rfl rfl rfl (by omega) (by omega) (by omega) Try.underlying53 inf4 rfl ?_
    intro bp _ H'; clear H; have H := H'; clear H'
    refine s_run rfl rfl (r_fa0 rfl fo55_4) ?_
    refine s_st (u := .slice _ _ _) H 4 rfl rfl rfl rfl rfl rfl sz53 ?_
    intro _ H'; simp only [List.set_cons_zero, List.set_cons_succ, List.take_succ_cons, List.take_zero, List.drop_succ_cons, List.drop_zero, List.cons_append, List.nil_append, List.append_nil, List.length_cons, List.length_nil, Nat.reduceAdd] at H'; clear H; have H := H'; clear H'
    refine k_nil ?_
    refine c_norm ?_
    refine k_seq ?_
    refine k_rg ?_
    refine s_run rfl rfl (r_fa0 rfl fo55_6) ?_
    refine s_st (u := .int _ _) H 4 rfl rfl rfl rfl rfl rfl sz3 ?_
    intro _ H'; simp only [List.set_cons_zero, List.set_cons_succ, List.take_succ_cons, List.take_zero, List.drop_succ_cons, List.drop_zero, List.cons_append, List.nil_append, List.append_nil, List.length_cons, List.length_nil, Nat.reduceAdd] at H'; clear H; have H := H'; clear H'
    refine k_nil ?_
    refine c_norm ?_
    refine k_seq ?_
    refine k_rg ?_
    refine s_run rfl rfl (r_la H 4 rfl rfl rfl ag55 sz55) ?_
    refine s_sw H 5 rfl rfl rfl rfl rfl rfl rfl sz55 ?_
    intro _ H'; simp only [List.set_cons_zero, List.set_cons_succ, List.take_succ_cons, List.take_zero, List.drop_succ_cons, List.drop_zero, List.cons_append, List.nil_append, List.append_nil, List.length_cons, List.length_nil, Nat.reduceAdd] at H'; clear H; have H := H'; clear H'
    refine k_nil ?_
    refine c_norm ?_
    refine k_ret ?_
    refine fx1r rfl (rv_a H 5 rfl rfl rfl ag55 sz55) ?_
    have HF := Heap.step (A := [blk p3 [.slice B m cb, .slice none 0 0, .slice none 0 0, .slice none 0 0, .slice none 0 0, .int .i64 0, .int .i64 0, .bool false] 55, blk p2 nilDev 55]) (L := [vec (Value.int .u64) b fz 124]) (HB.perm (by
      refine (List.Perm.swap _ _ _).trans (List.Perm.cons _ (List.Perm.swap _ _ _)))) H (by rw [← hG]; exact fun _ h => h)
    simp only [List.cons_append, List.nil_append] at HF
    have HP := HF.pick 3 rfl
    simp only [List.eraseIdx_cons_succ, List.eraseIdx_cons_zero] at HP
    rw [Nat.zero_add] at HP
    obtain ⟨b1, hb1, _, HP⟩ := own_vecN (by omega) HP
    refine ⟨⟨B, cb, A1, c1, some ⟨bw, 0, none⟩, m, some ⟨bd, 0, none⟩, m, some ⟨bp, 0, none⟩, m, -1⟩, ?_, HF.clear, ⟨?_, ?_, ?_, ?_, ?_, .inr ⟨rfl, rfl⟩, ⟨hfl, hfl, by simp [Nv.load, hfl], by simp [Nv.load], by simp [Nv.load]⟩⟩⟩
    · simp only [refE, Nv.load, Nat.zero_add]
    · exact HP.sees 6 rfl hF hb (fun h => by omega)
    · exact HP.sees 0 rfl hF hb1 (fun h => by have h' : fz.length ≠ 0 := h; omega)
    · have := HP.sees 3 rfl hF (A := some ⟨bw, 0, none⟩) (m := 1) (fun _ => rfl) (fun _ => by simp)
      rw [Nat.mul_comm, ← hfl] at this
      exact this
    · exact HP.sees 2 rfl hF (A := some ⟨bd, 0, none⟩) (m := 1) (fun _ => rfl) (fun _ => by simp)
    · exact HP.sees 1 rfl hF (A := some ⟨bp, 0, none⟩) (m := 1) (fun _ => rfl) (fun _ => by simp)
end Go.Proofs.Ytmekhdclnhhhbaa
