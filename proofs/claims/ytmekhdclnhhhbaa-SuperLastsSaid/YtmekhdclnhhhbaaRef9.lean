/- The document's Crash. -/
import Derived.Test.YtmekhdclnhhhbaaRef8
namespace Go.Proofs.Ytmekhdclnhhhbaa
open Go.RowKit
set_option linter.unusedSimpArgs false
set_option linter.unusedVariables false
theorem rCrash (s : RefS) (d : Nv.D) (m : Nat) (A : Option Addr) (nc cc : Nat) (cs : List Int) (F : List Nat) (w : World) (hr : RefOk w F s d m) (hF : ∀ i ∈ F, i < w.heap.size) (hm : m ≤ 60000)
    (hz : Sees (Value.int .u8) w [] A cs) (hl : cs.length = nc) (hb : ∀ z ∈ cs, 0 ≤ z) (hnc : nc ≤ 1000000) :
    Calls Try.prog 76 [.agg (refCells s d m).toArray, .slice A nc cc].toArray w fun e w' => ∃ s', e = .returned (.agg (refCells s' (Nv.load (Nv.crashTo d (Nv.dirtyTo d.dirty m) cs (Nv.dirtyTo d.dirty m).length) m) m).toArray) ∧ Heap w [] [] w' ∧ RefOk w' F s' (Nv.load (Nv.crashTo d (Nv.dirtyTo d.dirty m) cs (Nv.dirtyTo d.dirty m).length) m) m := by
  have H := Heap.nil w
  obtain ⟨A0, c0, A1, c1, A2, c2, A3, c3, A4, c4, rf0⟩ := s
  have ho := hr.ok
  have hlast := ho.hl
  have hD := rDirty ⟨A0, c0, A1, c1, A2, c2, A3, c3, A4, c4, rf0⟩ d m
  rw [refE]
  simp only
  refine k_in (N := 73) Try.func76 rfl rfl rfl ?_
  refine k_seq ?_
  refine k_rg ?_
  refine s_box H rfl rfl ?_
  intro p2 _ H'; clear H; have H := H'; clear H'
  refine s_al H rfl inf55 ?_
  intro p4 _ H'; clear H; have H := H'; clear H'
  refine k_nil ?_
  refine c_norm ?_
  refine k_seq ?_
  refine k_rg ?_
  refine s_run rfl rfl (r_fa0 rfl fo55_1) ?_
  refine s_run rfl rfl (r_lo H 1 rfl rfl rfl ag52) ?_
  refine s_call rfl (rLines A1 m _ d.last _ (hr.last.nilF.later H.only (by simp)) (by omega) (by omega)) (ca111 rfl) ?_
  rintro e W1 ⟨AO, bo, co, rfl, hAO, H'⟩
  refine ⟨_, rfl, ?_⟩
  have H := H.more H'; clear H'; simp only [List.cons_append, List.nil_append] at H
  refine s_run rfl rfl (r_as (v := .slice _ _ _) rfl) ?_
  refine k_nil ?_
  refine c_norm ?_
  refine k_seq ?_
  refine k_rg ?_
  refine s_run rfl rfl (r_la H 2 rfl rfl rfl ag55 sz55) ?_
  refine s_call rfl (hD _ (hr.dirty.nilF.later H.only (by simp)) ho.hd (by omega)) (ca91 rfl) ?_
  rintro e W1 ⟨AD, bD, cD, rfl, hAD, H'⟩
  refine ⟨_, rfl, ?_⟩
  have H := H.more H'; clear H'; simp only [List.cons_append, List.nil_append] at H
  refine s_run rfl rfl (r_as (v := .slice _ _ _) rfl) ?_
  refine k_nil ?_
  refine c_norm ?_
  refine k_seq ?_
  refine k_seq ?_
  refine k_rg ?_
  refine s_run rfl rfl (r_as (v := .int _ _) rfl) ?_
  refine k_nil ?_
  refine c_norm ?_
  refine k_b ?_
  have hdl := dirtyTo_len d.dirty m
  have hmem := Nv.dirtyTo_mem d.dirty m
  have hcl := crashTo_len ho cs
  have hstop := Nv.crashTo_stop d (Nv.dirtyTo d.dirty m) cs
  have hT := Nv.crashTo_succ d (Nv.dirtyTo d.dirty m) cs
  generalize hls : Nv.dirtyTo d.dirty m = ls at *
  have hfin : ∀ (j : Nat) (W : World), (ls.length ≤ j ∨ cs.length ≤ j) → j ≤ ls.length → Nv.crashTo d ls cs ls.length = Nv.crashTo d ls cs j := by
    intro j W h1 h2
    have e := hstop j h1 (ls.length - j)
    rw [show j + (ls.length - j) = ls.length from by omega] at e
    exact e
  refine k_loop (fun q f W => ∃ (k : Nat), k ≤ ls.length ∧ q = ls.length - k ∧ f 1 = .slice A nc cc ∧ f 2 = ptr p2 ∧ f 4 = ptr p4 ∧ f 5 = .slice AO m co ∧ f 6 = .slice AD ls.length cD ∧ f 7 = .int .i64 k ∧ Heap w [] [vec (Value.int .i64) bD ls 3, vec (Value.int .u64) bo (Nv.crashTo d ls cs k) 124, blk p4 nilDev 55, blk p2 [.slice A0 m c0, .slice A1 m c1, .slice A2 m c2, .slice A3 m c3, .slice A4 m c4, .int .i64 d.steps, .int .i64 rf0, .bool d.dead] 55] W) ls.length ⟨0, by omega, rfl, rfl, rfl, rfl, rfl, rfl, rfl, H⟩ ?_
  clear H
  rintro q f W ⟨k, hk, rfl, h1, h2, h4, h5, h6, h7, H⟩
  by_cases hgo : k < ls.length ∧ k < cs.length
  · obtain ⟨hlt, hkc⟩ := hgo
    obtain rfl := hAD (by omega)
    obtain ⟨i, hi, him, hdi⟩ := hmem k _ (getE hlt)
    obtain rfl := hAO (by omega)
    have hli : ls[k]? = some (i : Int) := by rw [getE hlt, hi]
    have hck := getE hkc
    have hc0 : 0 ≤ cs.getD k default := hb _ (List.mem_of_getElem? hck)
    obtain ⟨bc, oc, rfl, _, hrc⟩ := hz (by omega)
    have hcell := hrc k _ hck
    have er : Nv.crashTo d ls cs (k + 1) = Nv.crashOne d (Nv.crashTo d ls cs k) i (cs.getD k default) := by
      rw [hT, if_pos ⟨hlt, hkc⟩]
      have : ls.getD k 0 = (i : Int) := hi
      rw [this]; simp
    have hck2 := hcl k
    have hck3 := hcl (k + 1)
    have hf := ho.hf
    have hc := ho.hc
    have hp := ho.hp
    obtain ⟨f, rfl⟩ := live6 h1 h2 h4 h5 h6 h7
    clear h1 h2 h4 h5 h6 h7
    generalize Nv.crashTo d ls cs k = out at *
    generalize cs.getD k default = c at *
    have e1 : i * 8 = 8 * i := by omega
    unfold Nv.crashOne at er
    by_cases g1 : c % 3 = 1
    · rw [if_pos g1] at er
      obtain ⟨bp, op, ep, _, hrp⟩ := hr.pend (by omega)
      obtain rfl : A4 = some ⟨bp, op, none⟩ := ep
      have hcp := hrp i _ (getE (by omega))
      by_cases g2 : d.pend.getD i default = true
      · rw [g2] at hcp
        have g2' : d.pend.getD i false = true := g2
        rw [if_pos g2'] at er
        obtain ⟨bw, ow, ew, _, hrw⟩ := hr.wait (by omega)
        obtain rfl : A2 = some ⟨bw, ow, none⟩ := ew
        have hpw := reads_part (m := m) (i := i) hrw hf him
        refine k_seq ?_
        refine k_seq ?_
        refine k_rg ?_
        refine s_run rfl rfl (r_mv (v := .int _ _) rfl) ?_
        refine s_run rfl rfl (r_mv (v := .slice _ _ _) rfl) ?_
        refine s_run rfl rfl (r_len rfl Try.underlying42) ?_
        refine s_run rfl rfl (r_lssT rfl rfl (by omega)) ?_
        refine s_run rfl rfl (r_mv (v := .bool _) rfl) ?_
        refine s_run rfl (g_on 17 (by kernel_rfl) rfl) (r_mv (v := .int _ _) rfl) ?_
        refine s_run rfl (g_on 17 (by kernel_rfl) rfl) (r_mv (v := .slice _ _ _) rfl) ?_
        refine s_run rfl (g_on 17 (by kernel_rfl) rfl) (r_len rfl Try.underlying49) ?_
        refine s_run rfl (g_on 17 (by kernel_rfl) rfl) (r_lssT rfl rfl (by omega)) ?_
        refine s_run rfl rfl (r_pkT (v := .bool _) rfl rfl) ?_
        refine k_nil ?_
        refine c_norm ?_
        refine k_t rfl ?_
        refine k_skip ?_
        refine c_norm ?_
        refine k_seq ?_
        refine k_b ?_
        refine k_seq ?_
        refine k_rg ?_
        refine s_run rfl rfl (r_mv (v := .slice _ _ _) rfl) ?_
        refine s_run rfl rfl (r_mv (v := .int _ _) rfl) ?_
        refine s_run rfl rfl (r_ix1o rfl rfl rfl (by omega) Try.underlying49 sz5) ?_
        refine s_run rfl rfl (r_lr H rfl hcell (by simp) ag5) ?_
        refine s_run rfl rfl (r_rem rfl rfl (by omega)) ?_
        refine k_nil ?_
        refine c_norm ?_
        refine k_b ?_
        refine k_seq ?_
        refine k_rg ?_
        refine s_run rfl rfl (r_eqlT rfl rfl (by omega)) ?_
        refine s_run rfl rfl (r_as (v := .bool _) rfl) ?_
        refine k_nil ?_
        refine c_norm ?_
        refine k_t rfl ?_
        refine k_seq ?_
        refine k_q mixed (by kernel_rfl) H ?_
        refine q_run rfl rfl (fun _ H => r_fa0 rfl fo55_4) ?_
        refine q_run rfl rfl (fun _ H => r_lo H 3 rfl rfl rfl ag53) ?_
        refine q_run rfl rfl (fun _ H => r_mv (v := .slice _ _ _) rfl) ?_
        refine q_run rfl rfl (fun _ H => r_mv (v := .int _ _) rfl) ?_
        refine q_run rfl rfl (fun _ H => r_ix1 rfl rfl rfl (by omega) Try.underlying42 sz3) ?_
        refine q_run rfl rfl (fun _ H => r_lv H 0 rfl rfl (by assumption) ag3) ?_
        refine q_run rfl rfl (fun _ H => r_ix1o rfl rfl rfl (by omega) Try.underlying53 sz4) ?_
        refine q_run rfl rfl (fun _ H => r_lr H rfl hcp (by simp) ag4) ?_
        refine q_nil ?_
        intro _ H'; clear H; have H := H'; clear H'
        refine c_norm ?_
        refine k_t rfl ?_
        refine k_qt 14 mixed (by kernel_rfl) H rfl rfl ?_
        refine q_run rfl rfl (fun _ H => r_mv (v := .slice _ _ _) rfl) ?_
        refine q_run rfl rfl (fun _ H => r_mv (v := .slice _ _ _) rfl) ?_
        refine q_run rfl rfl (fun _ H => r_mv (v := .int _ _) rfl) ?_
        refine q_run rfl rfl (fun _ H => r_ix1 rfl rfl rfl (by omega) Try.underlying42 sz3) ?_
        refine q_run rfl rfl (fun _ H => r_lv H 0 rfl rfl (by assumption) ag3) ?_
        refine q_run rfl rfl (fun _ H => r_fa0 rfl fo55_2) ?_
        refine q_run rfl rfl (fun _ H => r_lo H 3 rfl rfl rfl ag52) ?_
        refine q_run rfl rfl (fun _ H => r_mv (v := .slice _ _ _) rfl) ?_
        refine q_run rfl rfl (fun _ H => r_mv (v := .int _ _) rfl) ?_
        refine q_run rfl rfl (fun _ H => r_ix1 rfl rfl rfl (by omega) Try.underlying42 sz3) ?_
        refine q_run rfl rfl (fun _ H => r_lv H 0 rfl rfl (by assumption) ag3) ?_
        refine q_run rfl rfl (fun _ H => r_ix rfl rfl rfl (by omega) Try.underlying52 sz124) ?_
        refine q_run rfl rfl (fun _ H => r_lA (zs := Nv.part d.fl i) (hpw.later H.only (by simp)) rfl (Nv.length_part (by omega)) ag124 sz124) ?_
        refine q_run rfl rfl (fun _ H => r_ix0 rfl rfl rfl (by omega) Try.underlying52 sz124) ?_
        refine q_nil ?_
        intro _ H'; clear H; have H := H'; clear H'
        refine s_svA (zs := Nv.part d.fl i) H 1 rfl rfl rfl rfl (Nv.length_part (by omega)) (by omega) (fun _ => rfl) sz124 ?_
        intro _ H'; simp only [List.set_cons_zero, List.set_cons_succ, List.take_succ_cons, List.take_zero, List.drop_succ_cons, List.drop_zero, List.cons_append, List.nil_append, List.append_nil, List.length_cons, List.length_nil, Nat.reduceAdd] at H'; clear H; have H := H'; clear H'
        refine k_nil ?_
        refine b_norm ?_
        refine b_norm ?_
        refine c_norm ?_
        refine k_rg ?_
        refine s_run rfl rfl (r_mv (v := .int _ _) rfl) ?_
        refine s_run rfl rfl (r_add rfl rfl (wI (by omega))) ?_
        refine s_run rfl rfl (r_as (v := .int _ _) rfl) ?_
        refine k_nil ?_
        refine c_round ?_
        refine ⟨_, _, ?_, rfl, k + 1, by omega, rfl, rfl, rfl, rfl, rfl, rfl, rfl, ?_⟩
        · omega
        · rw [er]; rw [e1] at H; simpa [Nv.setPart] using H
      · have g2' : ¬ d.pend.getD i false = true := g2
        have g3 : d.pend.getD i default = false := by simpa using g2
        rw [g3] at hcp
        rw [if_neg g2'] at er
        refine k_seq ?_
        refine k_seq ?_
        refine k_rg ?_
        refine s_run rfl rfl (r_mv (v := .int _ _) rfl) ?_
        refine s_run rfl rfl (r_mv (v := .slice _ _ _) rfl) ?_
        refine s_run rfl rfl (r_len rfl Try.underlying42) ?_
        refine s_run rfl rfl (r_lssT rfl rfl (by omega)) ?_
        refine s_run rfl rfl (r_mv (v := .bool _) rfl) ?_
        refine s_run rfl (g_on 17 (by kernel_rfl) rfl) (r_mv (v := .int _ _) rfl) ?_
        refine s_run rfl (g_on 17 (by kernel_rfl) rfl) (r_mv (v := .slice _ _ _) rfl) ?_
        refine s_run rfl (g_on 17 (by kernel_rfl) rfl) (r_len rfl Try.underlying49) ?_
        refine s_run rfl (g_on 17 (by kernel_rfl) rfl) (r_lssT rfl rfl (by omega)) ?_
        refine s_run rfl rfl (r_pkT (v := .bool _) rfl rfl) ?_
        refine k_nil ?_
        refine c_norm ?_
        refine k_t rfl ?_
        refine k_skip ?_
        refine c_norm ?_
        refine k_seq ?_
        refine k_b ?_
        refine k_seq ?_
        refine k_rg ?_
        refine s_run rfl rfl (r_mv (v := .slice _ _ _) rfl) ?_
        refine s_run rfl rfl (r_mv (v := .int _ _) rfl) ?_
        refine s_run rfl rfl (r_ix1o rfl rfl rfl (by omega) Try.underlying49 sz5) ?_
        refine s_run rfl rfl (r_lr H rfl hcell (by simp) ag5) ?_
        refine s_run rfl rfl (r_rem rfl rfl (by omega)) ?_
        refine k_nil ?_
        refine c_norm ?_
        refine k_b ?_
        refine k_seq ?_
        refine k_rg ?_
        refine s_run rfl rfl (r_eqlT rfl rfl (by omega)) ?_
        refine s_run rfl rfl (r_as (v := .bool _) rfl) ?_
        refine k_nil ?_
        refine c_norm ?_
        refine k_t rfl ?_
        refine k_seq ?_
        refine k_q mixed (by kernel_rfl) H ?_
        refine q_run rfl rfl (fun _ H => r_fa0 rfl fo55_4) ?_
        refine q_run rfl rfl (fun _ H => r_lo H 3 rfl rfl rfl ag53) ?_
        refine q_run rfl rfl (fun _ H => r_mv (v := .slice _ _ _) rfl) ?_
        refine q_run rfl rfl (fun _ H => r_mv (v := .int _ _) rfl) ?_
        refine q_run rfl rfl (fun _ H => r_ix1 rfl rfl rfl (by omega) Try.underlying42 sz3) ?_
        refine q_run rfl rfl (fun _ H => r_lv H 0 rfl rfl (by assumption) ag3) ?_
        refine q_run rfl rfl (fun _ H => r_ix1o rfl rfl rfl (by omega) Try.underlying53 sz4) ?_
        refine q_run rfl rfl (fun _ H => r_lr H rfl hcp (by simp) ag4) ?_
        refine q_nil ?_
        intro _ H'; clear H; have H := H'; clear H'
        refine c_norm ?_
        refine k_f rfl ?_
        refine k_skip ?_
        refine b_norm ?_
        refine b_norm ?_
        refine c_norm ?_
        refine k_rg ?_
        refine s_run rfl rfl (r_mv (v := .int _ _) rfl) ?_
        refine s_run rfl rfl (r_add rfl rfl (wI (by omega))) ?_
        refine s_run rfl rfl (r_as (v := .int _ _) rfl) ?_
        refine k_nil ?_
        refine c_round ?_
        refine ⟨_, _, ?_, rfl, k + 1, by omega, rfl, rfl, rfl, rfl, rfl, rfl, rfl, ?_⟩
        · omega
        · rw [er]; exact H
    · rw [if_neg g1] at er
      by_cases g2 : c % 3 = 2
      · rw [if_pos g2] at er
        obtain ⟨bn, on, en, _, hrn⟩ := hr.now (by omega)
        obtain rfl : A0 = some ⟨bn, on, none⟩ := en
        have hpn := reads_part (m := m) (i := i) hrn hc him
        refine k_seq ?_
        refine k_seq ?_
        refine k_rg ?_
        refine s_run rfl rfl (r_mv (v := .int _ _) rfl) ?_
        refine s_run rfl rfl (r_mv (v := .slice _ _ _) rfl) ?_
        refine s_run rfl rfl (r_len rfl Try.underlying42) ?_
        refine s_run rfl rfl (r_lssT rfl rfl (by omega)) ?_
        refine s_run rfl rfl (r_mv (v := .bool _) rfl) ?_
        refine s_run rfl (g_on 17 (by kernel_rfl) rfl) (r_mv (v := .int _ _) rfl) ?_
        refine s_run rfl (g_on 17 (by kernel_rfl) rfl) (r_mv (v := .slice _ _ _) rfl) ?_
        refine s_run rfl (g_on 17 (by kernel_rfl) rfl) (r_len rfl Try.underlying49) ?_
        refine s_run rfl (g_on 17 (by kernel_rfl) rfl) (r_lssT rfl rfl (by omega)) ?_
        refine s_run rfl rfl (r_pkT (v := .bool _) rfl rfl) ?_
        refine k_nil ?_
        refine c_norm ?_
        refine k_t rfl ?_
        refine k_skip ?_
        refine c_norm ?_
        refine k_seq ?_
        refine k_b ?_
        refine k_seq ?_
        refine k_rg ?_
        refine s_run rfl rfl (r_mv (v := .slice _ _ _) rfl) ?_
        refine s_run rfl rfl (r_mv (v := .int _ _) rfl) ?_
        refine s_run rfl rfl (r_ix1o rfl rfl rfl (by omega) Try.underlying49 sz5) ?_
        refine s_run rfl rfl (r_lr H rfl hcell (by simp) ag5) ?_
        refine s_run rfl rfl (r_rem rfl rfl (by omega)) ?_
        refine k_nil ?_
        refine c_norm ?_
        refine k_b ?_
        refine k_seq ?_
        refine k_rg ?_
        refine s_run rfl rfl (r_eqlF rfl rfl (by omega)) ?_
        refine s_run rfl rfl (r_as (v := .bool _) rfl) ?_
        refine k_nil ?_
        refine c_norm ?_
        refine k_f rfl ?_
        refine k_seq ?_
        refine k_rg ?_
        refine s_run rfl rfl (r_eqlT rfl rfl (by omega)) ?_
        refine s_run rfl rfl (r_as (v := .bool _) rfl) ?_
        refine k_nil ?_
        refine c_norm ?_
        refine k_t rfl ?_
        refine k_qt 14 mixed (by kernel_rfl) H rfl rfl ?_
        refine q_run rfl rfl (fun _ H => r_mv (v := .slice _ _ _) rfl) ?_
        refine q_run rfl rfl (fun _ H => r_mv (v := .slice _ _ _) rfl) ?_
        refine q_run rfl rfl (fun _ H => r_mv (v := .int _ _) rfl) ?_
        refine q_run rfl rfl (fun _ H => r_ix1 rfl rfl rfl (by omega) Try.underlying42 sz3) ?_
        refine q_run rfl rfl (fun _ H => r_lv H 0 rfl rfl (by assumption) ag3) ?_
        refine q_run rfl rfl (fun _ H => r_fa0 rfl fo55_0) ?_
        refine q_run rfl rfl (fun _ H => r_lo H 3 rfl rfl rfl ag52) ?_
        refine q_run rfl rfl (fun _ H => r_mv (v := .slice _ _ _) rfl) ?_
        refine q_run rfl rfl (fun _ H => r_mv (v := .int _ _) rfl) ?_
        refine q_run rfl rfl (fun _ H => r_ix1 rfl rfl rfl (by omega) Try.underlying42 sz3) ?_
        refine q_run rfl rfl (fun _ H => r_lv H 0 rfl rfl (by assumption) ag3) ?_
        refine q_run rfl rfl (fun _ H => r_ix rfl rfl rfl (by omega) Try.underlying52 sz124) ?_
        refine q_run rfl rfl (fun _ H => r_lA (zs := Nv.part d.cache i) (hpn.later H.only (by simp)) rfl (Nv.length_part (by omega)) ag124 sz124) ?_
        refine q_run rfl rfl (fun _ H => r_ix0 rfl rfl rfl (by omega) Try.underlying52 sz124) ?_
        refine q_nil ?_
        intro _ H'; clear H; have H := H'; clear H'
        refine s_svA (zs := Nv.part d.cache i) H 1 rfl rfl rfl rfl (Nv.length_part (by omega)) (by omega) (fun _ => rfl) sz124 ?_
        intro _ H'; simp only [List.set_cons_zero, List.set_cons_succ, List.take_succ_cons, List.take_zero, List.drop_succ_cons, List.drop_zero, List.cons_append, List.nil_append, List.append_nil, List.length_cons, List.length_nil, Nat.reduceAdd] at H'; clear H; have H := H'; clear H'
        refine k_nil ?_
        refine b_norm ?_
        refine b_norm ?_
        refine c_norm ?_
        refine k_rg ?_
        refine s_run rfl rfl (r_mv (v := .int _ _) rfl) ?_
        refine s_run rfl rfl (r_add rfl rfl (wI (by omega))) ?_
        refine s_run rfl rfl (r_as (v := .int _ _) rfl) ?_
        refine k_nil ?_
        refine c_round ?_
        refine ⟨_, _, ?_, rfl, k + 1, by omega, rfl, rfl, rfl, rfl, rfl, rfl, rfl, ?_⟩
        · omega
        · rw [er]; rw [e1] at H; simpa [Nv.setPart] using H
      · rw [if_neg g2] at er
        refine k_seq ?_
        refine k_seq ?_
        refine k_rg ?_
        refine s_run rfl rfl (r_mv (v := .int _ _) rfl) ?_
        refine s_run rfl rfl (r_mv (v := .slice _ _ _) rfl) ?_
        refine s_run rfl rfl (r_len rfl Try.underlying42) ?_
        refine s_run rfl rfl (r_lssT rfl rfl (by omega)) ?_
        refine s_run rfl rfl (r_mv (v := .bool _) rfl) ?_
        refine s_run rfl (g_on 17 (by kernel_rfl) rfl) (r_mv (v := .int _ _) rfl) ?_
        refine s_run rfl (g_on 17 (by kernel_rfl) rfl) (r_mv (v := .slice _ _ _) rfl) ?_
        refine s_run rfl (g_on 17 (by kernel_rfl) rfl) (r_len rfl Try.underlying49) ?_
        refine s_run rfl (g_on 17 (by kernel_rfl) rfl) (r_lssT rfl rfl (by omega)) ?_
        refine s_run rfl rfl (r_pkT (v := .bool _) rfl rfl) ?_
        refine k_nil ?_
        refine c_norm ?_
        refine k_t rfl ?_
        refine k_skip ?_
        refine c_norm ?_
        refine k_seq ?_
        refine k_b ?_
        refine k_seq ?_
        refine k_rg ?_
        refine s_run rfl rfl (r_mv (v := .slice _ _ _) rfl) ?_
        refine s_run rfl rfl (r_mv (v := .int _ _) rfl) ?_
        refine s_run rfl rfl (r_ix1o rfl rfl rfl (by omega) Try.underlying49 sz5) ?_
        refine s_run rfl rfl (r_lr H rfl hcell (by simp) ag5) ?_
        refine s_run rfl rfl (r_rem rfl rfl (by omega)) ?_
        refine k_nil ?_
        refine c_norm ?_
        refine k_b ?_
        refine k_seq ?_
        refine k_rg ?_
        refine s_run rfl rfl (r_eqlF rfl rfl (by omega)) ?_
        refine s_run rfl rfl (r_as (v := .bool _) rfl) ?_
        refine k_nil ?_
        refine c_norm ?_
        refine k_f rfl ?_
        refine k_seq ?_
        refine k_rg ?_
        refine s_run rfl rfl (r_eqlF rfl rfl (by omega)) ?_
        refine s_run rfl rfl (r_as (v := .bool _) rfl) ?_
        refine k_nil ?_
        refine c_norm ?_
        refine k_f rfl ?_
        refine k_skip ?_
        refine b_norm ?_
        refine b_norm ?_
        refine c_norm ?_
        refine k_rg ?_
        refine s_run rfl rfl (r_mv (v := .int _ _) rfl) ?_
        refine s_run rfl rfl (r_add rfl rfl (wI (by omega))) ?_
        refine s_run rfl rfl (r_as (v := .int _ _) rfl) ?_
        refine k_nil ?_
        refine c_round ?_
        refine ⟨_, _, ?_, rfl, k + 1, by omega, rfl, rfl, rfl, rfl, rfl, rfl, rfl, ?_⟩
        · omega
        · rw [er]; exact H
  · rw [hfin k W (by omega) hk]
    have hck := hcl k
    generalize Nv.crashTo d ls cs k = out at *
    obtain ⟨f, rfl⟩ := live6 h1 h2 h4 h5 h6 h7
    clear h1 h2 h4 h5 h6 h7
    have hA := rAll AO m co out W (fun h => ⟨bo, 0, hAO (by omega), by simp, H.reads0 1 rfl⟩) hck (by omega)
    have hpad : out ++ List.replicate (8 * ((8 * m + 7) / 8) - 8 * m) 0 = out := by rw [show 8 * ((8 * m + 7) / 8) - 8 * m = 0 from by omega]; simp
    have hmm : (8 * m + 7) / 8 = m := by omega
    have hLo := fun (B : Option Addr) (cb : Nat) (G : List Nat) (W2 : World) (hs2 : Sees (Value.int .u64) W2 [] B out) (hF2 : ∀ i ∈ G, i < W2.heap.size) => rLoad B (8 * m) cb out G W2 hs2 hck (by omega) hF2
    rw [hpad, hmm] at hLo
    have hlt2 : ∀ (L : List Ent) (W2 : World), Heap w [] L W2 → ∀ y ∈ ids L ++ F, y < W2.heap.size := by
      intro L W2 H y hy
      rcases List.mem_append.1 hy with h | h
      · exact H.idlt y h
      · exact Nat.lt_of_lt_of_le (hF y h) H.only.size
    by_cases hk2 : k < ls.length
    · refine k_seq ?_
      refine k_seq ?_
      refine k_rg ?_
      refine s_run rfl rfl (r_mv (v := .int _ _) rfl) ?_
      refine s_run rfl rfl (r_mv (v := .slice _ _ _) rfl) ?_
      refine s_run rfl rfl (r_len rfl Try.underlying42) ?_
      refine s_run rfl rfl (r_lssT rfl rfl (by omega)) ?_
      refine s_run rfl rfl (r_mv (v := .bool _) rfl) ?_
      refine s_run rfl (g_on 17 (by kernel_rfl) rfl) (r_mv (v := .int _ _) rfl) ?_
      refine s_run rfl (g_on 17 (by kernel_rfl) rfl) (r_mv (v := .slice _ _ _) rfl) ?_
      refine s_run rfl (g_on 17 (by kernel_rfl) rfl) (r_len rfl Try.underlying49) ?_
      refine s_run rfl (g_on 17 (by kernel_rfl) rfl) (r_lssF rfl rfl (by omega)) ?_
      refine s_run rfl rfl (r_pkT (v := .bool _) rfl rfl) ?_
      refine k_nil ?_
      refine c_norm ?_
      refine k_f rfl ?_
      refine k_exit ?_
      refine c_exit ?_
      refine c_exit ?_
      refine b_hit ?_
      refine c_norm ?_
      refine k_seq ?_
      refine k_rg ?_
      refine s_run rfl rfl (r_mv (v := .slice _ _ _) rfl) ?_
      refine s_call rfl (hA) (ca43 rfl) ?_
      rintro e W1 ⟨AW, bW, cW, rfl, hAW, H'⟩
      refine ⟨_, rfl, ?_⟩
      have H := H.more H'; clear H'; simp only [List.cons_append, List.nil_append] at H
      refine s_call rfl (hLo AW cW _ _ (fun h => ⟨bW, 0, hAW (by omega), by simp, H.reads0 0 rfl⟩) (hlt2 _ _ H)) (ca44 rfl) ?_
      rintro e W1 ⟨s2, rfl, H', hr'⟩
      refine ⟨_, rfl, ?_⟩
      have H := H.same H'.only; clear H'; simp only [refE]; have HB := H; clear H; have H := Heap.start HB.ents
      refine s_sw H 3 rfl rfl rfl rfl rfl rfl rfl sz55 ?_
      intro _ H'; simp only [List.set_cons_zero, List.set_cons_succ, List.take_succ_cons, List.take_zero, List.drop_succ_cons, List.drop_zero, List.cons_append, List.nil_append, List.append_nil, List.length_cons, List.length_nil, Nat.reduceAdd] at H'; clear H; have H := H'; clear H'
      refine k_nil ?_
      refine c_norm ?_
      refine k_ret ?_
      refine fx1r rfl (rv_a H 3 rfl rfl rfl ag55 sz55) ?_
      exact ⟨s2, rfl, (HB.whole H).clear, (hr'.later H.only (fun y hy => List.mem_append_left _ hy)).news (fun y hy => .inl (List.mem_append_right _ hy))⟩
    · refine k_seq ?_
      refine k_seq ?_
      refine k_rg ?_
      refine s_run rfl rfl (r_mv (v := .int _ _) rfl) ?_
      refine s_run rfl rfl (r_mv (v := .slice _ _ _) rfl) ?_
      refine s_run rfl rfl (r_len rfl Try.underlying42) ?_
      refine s_run rfl rfl (r_lssF rfl rfl (by omega)) ?_
      refine s_run rfl rfl (r_mv (v := .bool _) rfl) ?_
      refine s_off rfl (g_off 17 (by kernel_rfl) rfl rfl) ?_
      refine s_off rfl (g_off 17 (by kernel_rfl) rfl rfl) ?_
      refine s_off rfl (g_off 17 (by kernel_rfl) rfl rfl) ?_
      refine s_off rfl (g_off 17 (by kernel_rfl) rfl rfl) ?_
      refine s_run rfl rfl (r_pkF (v := .bool _) rfl rfl) ?_
      refine k_nil ?_
      refine c_norm ?_
      refine k_f rfl ?_
      refine k_exit ?_
      refine c_exit ?_
      refine c_exit ?_
      refine b_hit ?_
      refine c_norm ?_
      refine k_seq ?_
      refine k_rg ?_
      refine s_run rfl rfl (r_mv (v := .slice _ _ _) rfl) ?_
      refine s_call rfl (hA) (ca43 rfl) ?_
      rintro e W1 ⟨AW, bW, cW, rfl, hAW, H'⟩
      refine ⟨_, rfl, ?_⟩
      have H := H.more H'; clear H'; simp only [List.cons_append, List.nil_append] at H
      refine s_call rfl (hLo AW cW _ _ (fun h => ⟨bW, 0, hAW (by omega), by simp, H.reads0 0 rfl⟩) (hlt2 _ _ H)) (ca44 rfl) ?_
      rintro e W1 ⟨s2, rfl, H', hr'⟩
      refine ⟨_, rfl, ?_⟩
      have H := H.same H'.only; clear H'; simp only [refE]; have HB := H; clear H; have H := Heap.start HB.ents
      refine s_sw H 3 rfl rfl rfl rfl rfl rfl rfl sz55 ?_
      intro _ H'; simp only [List.set_cons_zero, List.set_cons_succ, List.take_succ_cons, List.take_zero, List.drop_succ_cons, List.drop_zero, List.cons_append, List.nil_append, List.append_nil, List.length_cons, List.length_nil, Nat.reduceAdd] at H'; clear H; have H := H'; clear H'
      refine k_nil ?_
      refine c_norm ?_
      refine k_ret ?_
      refine fx1r rfl (rv_a H 3 rfl rfl rfl ag55 sz55) ?_
      exact ⟨s2, rfl, (HB.whole H).clear, (hr'.later H.only (fun y hy => List.mem_append_left _ hy)).news (fun y hy => .inl (List.mem_append_right _ hy))⟩
end Go.Proofs.Ytmekhdclnhhhbaa
