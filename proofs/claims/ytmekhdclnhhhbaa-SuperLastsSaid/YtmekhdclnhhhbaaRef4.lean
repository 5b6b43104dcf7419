/- The document's Evict, Fence. -/
import Derived.Test.YtmekhdclnhhhbaaRef3
namespace Go.Proofs.Ytmekhdclnhhhbaa
open Go.RowKit
set_option linter.unusedSimpArgs false
set_option linter.unusedVariables false
theorem reads_part {w : World} {b o : Nat} {xs : List Int} {m i : Nat} (h : Reads (Value.int .u64) w b o xs) (hl : xs.length = 8 * m) (hi : i < m) : Reads (Value.int .u64) w b (o + i * 8) (Nv.part xs i) := by
  intro j z hz
  have hj : j < 8 := by have := (List.getElem?_eq_some_iff.1 hz).1; rw [Nv.length_part (by omega)] at this; omega
  unfold Nv.part at hz
  rw [List.getElem?_take_of_lt hj, List.getElem?_drop] at hz
  have := h _ _ hz
  rw [show o + i * 8 + j = o + (8 * i + j) from by omega]; exact this
theorem rEvict (s : RefS) (d : Nv.D) (m : Nat) (a : Int) (F : List Nat) (w : World) (hr : RefOk w F s d m) (hF : ∀ i ∈ F, i < w.heap.size) (hm : m ≤ 100000) :
    Calls Try.prog 74 [.agg (refCells s d m).toArray, .int .i64 a].toArray w fun e w' => ∃ s', e = .returned (.tuple #[.agg (refCells s' (Nv.evict d m a).1 m).toArray, .int .i64 (Nv.evict d m a).2]) ∧ Heap w [] [] w' ∧ RefOk w' F s' (Nv.evict d m a).1 m := by
  have H := Heap.nil w
  obtain ⟨A0, c0, A1, c1, A2, c2, A3, c3, A4, c4, rf0⟩ := s
  have hok := hr.ok
  have hc := hok.hc
  have hl := hok.hl
  have hdd := hok.hd
  have hpp := hok.hp
  by_cases hin : 0 ≤ a ∧ a < (m : Int)
  · obtain ⟨i, rfl⟩ : ∃ i : Nat, a = (i : Int) := ⟨a.toNat, by omega⟩
    by_cases hs : d.dead = true
    · have er : Nv.evict d m i = (d, 3) := by rw [Nv.evict, if_pos hin, if_pos hs]
      rw [er, refE]
      simp only [hs]
      refine k_in (N := 49) Try.func74 rfl rfl rfl ?_
      refine k_seq ?_
      refine k_rg ?_
      refine s_box H rfl rfl ?_
      intro p2 _ H'; clear H; have H := H'; clear H'
      refine s_al H rfl inf55 ?_
      intro p4 _ H'; clear H; have H := H'; clear H'
      refine s_run rfl rfl (r_as (v := .int _ _) rfl) ?_
      refine k_nil ?_
      refine c_norm ?_
      refine k_seq ?_
      refine k_seq ?_
      refine k_rg ?_
      refine s_run rfl rfl (r_mv (v := .int _ _) rfl) ?_
      refine s_run rfl rfl (r_lssF rfl rfl (by omega)) ?_
      refine s_run rfl rfl (r_mv (v := .bool _) rfl) ?_
      refine s_run rfl (g_on 8 (by kernel_rfl) rfl) (r_mv (v := .int _ _) rfl) ?_
      refine s_run rfl (g_on 8 (by kernel_rfl) rfl) (r_fa0 rfl fo55_0) ?_
      refine s_run rfl (g_on 8 (by kernel_rfl) rfl) (r_lo H 1 rfl rfl rfl ag52) ?_
      refine s_run rfl (g_on 8 (by kernel_rfl) rfl) (r_len rfl Try.underlying52) ?_
      refine s_run rfl (g_on 8 (by kernel_rfl) rfl) (r_geqF rfl rfl (by omega)) ?_
      refine s_run rfl rfl (r_pkF (v := .bool _) rfl rfl) ?_
      refine k_nil ?_
      refine c_norm ?_
      refine k_f rfl ?_
      refine k_skip ?_
      refine c_norm ?_
      refine k_seq ?_
      refine k_seq ?_
      refine k_rg ?_
      refine s_run rfl rfl (r_fa0 rfl fo55_7) ?_
      refine s_run rfl rfl (r_lo H 1 rfl rfl rfl ag4) ?_
      refine k_nil ?_
      refine c_norm ?_
      refine k_t rfl ?_
      refine k_seq ?_
      refine k_rg ?_
      refine s_run rfl rfl (r_la H 1 rfl rfl rfl ag55 sz55) ?_
      refine s_sw H 0 rfl rfl rfl rfl rfl rfl rfl sz55 ?_
      intro _ H'; simp only [List.set_cons_zero, List.set_cons_succ, List.take_succ_cons, List.take_zero, List.drop_succ_cons, List.drop_zero, List.cons_append, List.nil_append, List.append_nil, List.length_cons, List.length_nil, Nat.reduceAdd] at H'; clear H; have H := H'; clear H'
      refine s_run rfl rfl (r_as (v := .int _ _) rfl) ?_
      refine k_nil ?_
      refine c_norm ?_
      refine k_ret ?_
      refine c_ret ?_
      refine fx2r rfl (rv_a H 0 rfl rfl rfl ag55 sz55) (rv_t (v := .int _ _) rfl) ?_
      exact ⟨⟨A0, c0, A1, c1, A2, c2, A3, c3, A4, c4, rf0⟩, by simp only [refE, hs], H.clear, hr.later H.only (by simp)⟩
    · have hs : d.dead = false := by simpa using hs
      have er : Nv.evict d m i = (Nv.evicted d i, 0) := by rw [Nv.evict, if_pos hin, if_neg (by simp [hs]), Int.toNat_natCast]
      rw [er]
      obtain ⟨bn, on, en, _, hrn⟩ := hr.now (by omega)
      obtain rfl : A0 = some ⟨bn, on, none⟩ := en
      rw [refE]
      simp only [hs]
      have hpart := reads_part (m := m) (i := i) hrn hc (by omega)
      refine k_in (N := 49) Try.func74 rfl rfl rfl ?_
      refine k_seq ?_
      refine k_rg ?_
      refine s_box H rfl rfl ?_
      intro p2 _ H'; clear H; have H := H'; clear H'
      refine s_al H rfl inf55 ?_
      intro p4 _ H'; clear H; have H := H'; clear H'
      refine s_run rfl rfl (r_as (v := .int _ _) rfl) ?_
      refine k_nil ?_
      refine c_norm ?_
      refine k_seq ?_
      refine k_seq ?_
      refine k_rg ?_
      refine s_run rfl rfl (r_mv (v := .int _ _) rfl) ?_
      refine s_run rfl rfl (r_lssF rfl rfl (by omega)) ?_
      refine s_run rfl rfl (r_mv (v := .bool _) rfl) ?_
      refine s_run rfl (g_on 8 (by kernel_rfl) rfl) (r_mv (v := .int _ _) rfl) ?_
      refine s_run rfl (g_on 8 (by kernel_rfl) rfl) (r_fa0 rfl fo55_0) ?_
      refine s_run rfl (g_on 8 (by kernel_rfl) rfl) (r_lo H 1 rfl rfl rfl ag52) ?_
      refine s_run rfl (g_on 8 (by kernel_rfl) rfl) (r_len rfl Try.underlying52) ?_
      refine s_run rfl (g_on 8 (by kernel_rfl) rfl) (r_geqF rfl rfl (by omega)) ?_
      refine s_run rfl rfl (r_pkF (v := .bool _) rfl rfl) ?_
      refine k_nil ?_
      refine c_norm ?_
      refine k_f rfl ?_
      refine k_skip ?_
      refine c_norm ?_
      refine k_seq ?_
      refine k_seq ?_
      refine k_rg ?_
      refine s_run rfl rfl (r_fa0 rfl fo55_7) ?_
      refine s_run rfl rfl (r_lo H 1 rfl rfl rfl ag4) ?_
      refine k_nil ?_
      refine c_norm ?_
      refine k_f rfl ?_
      refine k_skip ?_
      refine c_norm ?_
      refine k_seq ?_
      refine k_cut (fun f' W' => ∃ b1 c1' b2 c2' b3 c3', f' 1 = .int .i64 i ∧ f' 2 = ptr p2 ∧ f' 4 = ptr p4 ∧ Heap w [] [vec Value.bool b3 d.pend 4, vec Value.bool b2 d.dirty 4, vec (Value.int .u64) b1 d.last 124, blk p4 [.slice none 0 0, .slice none 0 0, .slice none 0 0, .slice none 0 0, .slice none 0 0, .int .i64 0, .int .i64 0, .bool false] 55, blk p2 [.slice (some ⟨bn, on, none⟩) m c0, .slice (some ⟨b1, 0, none⟩) m c1', .slice A2 m c2, .slice (some ⟨b2, 0, none⟩) m c2', .slice (some ⟨b3, 0, none⟩) m c3', .int .i64 d.steps, .int .i64 rf0, .bool false] 55] W') ?_ ?_
      · refine k_trF mixed ?_; have H' := H.drew; clear H; have H := H'; clear H'
        refine t_take 0 rfl (by kernel_rfl) (by kernel_rfl) (by kernel_rfl) rfl (fun _ _ _ _ h => nomatch h.1) rfl (fun _ hS => r_fa0 rfl fo55_1) trivial ?_
        refine t_take 3 rfl (by kernel_rfl) (by kernel_rfl) (by kernel_rfl) rfl (fun _ _ _ _ h => nomatch h.1) rfl (fun _ hS => r_fa0 rfl fo55_3) trivial ?_
        refine t_take 6 rfl (by kernel_rfl) (by kernel_rfl) (by kernel_rfl) rfl (fun _ _ _ _ h => nomatch h.1) rfl (fun _ hS => r_fa0 rfl fo55_4) trivial ?_
        refine t_up3 1 4 7 (by kernel_rfl) ?_ ?_ ?_
        · refine up_mk rfl ?_
          refine s_run rfl rfl (r_lo H 1 rfl rfl rfl ag52) ?_
          refine k_nil ?_
          refine t_on trivial ?_
          refine t_up3 2 4 7 (by kernel_rfl) ?_ ?_ ?_
          · refine up_mk rfl ?_
            refine s_call rfl (rLines A1 m _ d.last _ (hr.last.nilF.later H.only (by simp)) (by omega) hm) (ca111 rfl) ?_
            rintro e W1 ⟨A1', b1, c1', rfl, hb1, H'⟩
            refine ⟨_, rfl, ?_⟩
            obtain rfl := hb1 (by omega); have H := H.more H'; clear H'; simp only [List.cons_append, List.nil_append] at H
            refine k_nil ?_
            refine t_on trivial ?_
            refine t_up2 4 7 (by kernel_rfl) ?_ ?_
            · refine up_mk rfl ?_
              refine s_run rfl rfl (r_lo H 2 rfl rfl rfl ag53) ?_
              refine k_nil ?_
              refine t_on trivial ?_
              refine t_up2 5 7 (by kernel_rfl) ?_ ?_
              · refine up_mk rfl ?_
                refine s_call rfl (rFlags A3 m _ d.dirty _ (hr.dirty.nilF.later H.only (by simp)) (by omega) hm) (ca112 rfl) ?_
                rintro e W1 ⟨A2', b2, c2', rfl, hb2, H'⟩
                refine ⟨_, rfl, ?_⟩
                obtain rfl := hb2 (by omega); have H := H.more H'; clear H'; simp only [List.cons_append, List.nil_append] at H
                refine k_nil ?_
                refine t_on trivial ?_
                refine t_up1 7 (by kernel_rfl) ?_
                refine up_mk rfl ?_
                refine s_run rfl rfl (r_lo H 3 rfl rfl rfl ag53) ?_
                refine k_nil ?_
                refine t_on trivial ?_
                refine t_take 9 rfl (by kernel_rfl) (by kernel_rfl) (by kernel_rfl) rfl (fun _ _ _ _ h => nomatch h.1) rfl (fun _ hS => r_fa0 rfl fo55_1) trivial ?_
                refine t_up1 8 (by kernel_rfl) ?_
                refine up_mk rfl ?_
                refine s_call rfl (rFlags A4 m _ d.pend _ (hr.pend.nilF.later H.only (by simp)) (by omega) hm) (ca112 rfl) ?_
                rintro e W1 ⟨A3', b3, c3', rfl, hb3, H'⟩
                refine ⟨_, rfl, ?_⟩
                obtain rfl := hb3 (by omega); have H := H.more H'; clear H'; simp only [List.cons_append, List.nil_append] at H
                refine k_nil ?_
                refine t_on trivial ?_
                refine t_up1 10 (by kernel_rfl) ?_
                refine up_mk rfl ?_
                refine s_st (u := .slice _ _ _) H 4 rfl rfl rfl rfl rfl rfl sz52 ?_
                intro _ H'; simp only [List.set_cons_zero, List.set_cons_succ, List.take_succ_cons, List.take_zero, List.drop_succ_cons, List.drop_zero, List.cons_append, List.nil_append, List.append_nil, List.length_cons, List.length_nil, Nat.reduceAdd] at H'; clear H; have H := H'; clear H'
                refine k_nil ?_
                refine t_on trivial ?_
                refine t_take 11 rfl (by kernel_rfl) (by kernel_rfl) (by kernel_rfl) rfl (fun _ _ _ _ h => nomatch h.1) rfl (fun _ hS => r_fa0 rfl fo55_3) trivial ?_
                refine t_up1 12 (by kernel_rfl) ?_
                refine up_mk rfl ?_
                refine s_st (u := .slice _ _ _) H 4 rfl rfl rfl rfl rfl rfl sz53 ?_
                intro _ H'; simp only [List.set_cons_zero, List.set_cons_succ, List.take_succ_cons, List.take_zero, List.drop_succ_cons, List.drop_zero, List.cons_append, List.nil_append, List.append_nil, List.length_cons, List.length_nil, Nat.reduceAdd] at H'; clear H; have H := H'; clear H'
                refine k_nil ?_
                refine t_on trivial ?_
                refine t_take 13 rfl (by kernel_rfl) (by kernel_rfl) (by kernel_rfl) rfl (fun _ _ _ _ h => nomatch h.1) rfl (fun _ hS => r_fa0 rfl fo55_4) trivial ?_
                refine t_up1 14 (by kernel_rfl) ?_
                refine up_mk rfl ?_
                refine s_st (u := .slice _ _ _) H 4 rfl rfl rfl rfl rfl rfl sz53 ?_
                intro _ H'; simp only [List.set_cons_zero, List.set_cons_succ, List.take_succ_cons, List.take_zero, List.drop_succ_cons, List.drop_zero, List.cons_append, List.nil_append, List.append_nil, List.length_cons, List.length_nil, Nat.reduceAdd] at H'; clear H; have H := H'; clear H'
                refine k_nil ?_
                refine t_on trivial ?_
                refine t_done (by kernel_rfl) ?_
                refine k_met ?_
                exact ⟨_, _, _, _, _, _, rfl, rfl, rfl, H⟩
              · refine up_mk rfl ?_
                refine s_run rfl rfl (r_lo H 2 rfl rfl rfl ag53) ?_
                refine k_nil ?_
                refine t_on trivial ?_
                refine t_take 9 rfl (by kernel_rfl) (by kernel_rfl) (by kernel_rfl) rfl (fun _ _ _ _ h => nomatch h.1) rfl (fun _ hS => r_fa0 rfl fo55_1) trivial ?_
                refine t_up1 5 (by kernel_rfl) ?_
                refine up_mk rfl ?_
                refine s_call rfl (rFlags A3 m _ d.dirty _ (hr.dirty.nilF.later H.only (by simp)) (by omega) hm) (ca112 rfl) ?_
                rintro e W1 ⟨A2', b2, c2', rfl, hb2, H'⟩
                refine ⟨_, rfl, ?_⟩
                obtain rfl := hb2 (by omega); have H := H.more H'; clear H'; simp only [List.cons_append, List.nil_append] at H
                refine k_nil ?_
                refine t_on trivial ?_
                refine t_up1 8 (by kernel_rfl) ?_
                refine up_mk rfl ?_
                refine s_call rfl (rFlags A4 m _ d.pend _ (hr.pend.nilF.later H.only (by simp)) (by omega) hm) (ca112 rfl) ?_
                rintro e W1 ⟨A3', b3, c3', rfl, hb3, H'⟩
                refine ⟨_, rfl, ?_⟩
                obtain rfl := hb3 (by omega); have H := H.more H'; clear H'; simp only [List.cons_append, List.nil_append] at H
                refine k_nil ?_
                refine t_on trivial ?_
                refine t_up1 10 (by kernel_rfl) ?_
                refine up_mk rfl ?_
                refine s_st (u := .slice _ _ _) H 4 rfl rfl rfl rfl rfl rfl sz52 ?_
                intro _ H'; simp only [List.set_cons_zero, List.set_cons_succ, List.take_succ_cons, List.take_zero, List.drop_succ_cons, List.drop_zero, List.cons_append, List.nil_append, List.append_nil, List.length_cons, List.length_nil, Nat.reduceAdd] at H'; clear H; have H := H'; clear H'
                refine k_nil ?_
                refine t_on trivial ?_
                refine t_take 11 rfl (by kernel_rfl) (by kernel_rfl) (by kernel_rfl) rfl (fun _ _ _ _ h => nomatch h.1) rfl (fun _ hS => r_fa0 rfl fo55_3) trivial ?_
                refine t_up1 12 (by kernel_rfl) ?_
                refine up_mk rfl ?_
                refine s_st (u := .slice _ _ _) H 4 rfl rfl rfl rfl rfl rfl sz53 ?_
                intro _ H'; simp only [List.set_cons_zero, List.set_cons_succ, List.take_succ_cons, List.take_zero, List.drop_succ_cons, List.drop_zero, List.cons_append, List.nil_append, List.append_nil, List.length_cons, List.length_nil, Nat.reduceAdd] at H'; clear H; have H := H'; clear H'
                refine k_nil ?_
                refine t_on trivial ?_
                refine t_take 13 rfl (by kernel_rfl) (by kernel_rfl) (by kernel_rfl) rfl (fun _ _ _ _ h => nomatch h.1) rfl (fun _ hS => r_fa0 rfl fo55_4) trivial ?_
                refine t_up1 14 (by kernel_rfl) ?_
                refine up_mk rfl ?_
                refine s_st (u := .slice _ _ _) H 4 rfl rfl rfl rfl rfl rfl sz53 ?_
                intro _ H'; simp only [List.set_cons_zero, List.set_cons_succ, List.take_succ_cons, List.take_zero, List.drop_succ_cons, List.drop_zero, List.cons_append, List.nil_append, List.append_nil, List.length_cons, List.length_nil, Nat.reduceAdd] at H'; clear H; have H := H'; clear H'
                refine k_nil ?_
                refine t_on trivial ?_
                refine t_done (by kernel_rfl) ?_
                refine k_met ?_
                exact ⟨_, _, _, _, _, _, rfl, rfl, rfl, H⟩
            · refine up_mk rfl ?_
              refine s_run rfl rfl (r_lo H 2 rfl rfl rfl ag53) ?_
              refine k_nil ?_
              refine t_on trivial ?_
              refine t_up1 4 (by kernel_rfl) ?_
              refine up_mk rfl ?_
              refine s_run rfl rfl (r_lo H 2 rfl rfl rfl ag53) ?_
              refine k_nil ?_
              refine t_on trivial ?_
              refine t_take 9 rfl (by kernel_rfl) (by kernel_rfl) (by kernel_rfl) rfl (fun _ _ _ _ h => nomatch h.1) rfl (fun _ hS => r_fa0 rfl fo55_1) trivial ?_
              refine t_up1 5 (by kernel_rfl) ?_
              refine up_mk rfl ?_
              refine s_call rfl (rFlags A3 m _ d.dirty _ (hr.dirty.nilF.later H.only (by simp)) (by omega) hm) (ca112 rfl) ?_
              rintro e W1 ⟨A2', b2, c2', rfl, hb2, H'⟩
              refine ⟨_, rfl, ?_⟩
              obtain rfl := hb2 (by omega); have H := H.more H'; clear H'; simp only [List.cons_append, List.nil_append] at H
              refine k_nil ?_
              refine t_on trivial ?_
              refine t_up1 8 (by kernel_rfl) ?_
              refine up_mk rfl ?_
              refine s_call rfl (rFlags A4 m _ d.pend _ (hr.pend.nilF.later H.only (by simp)) (by omega) hm) (ca112 rfl) ?_
              rintro e W1 ⟨A3', b3, c3', rfl, hb3, H'⟩
              refine ⟨_, rfl, ?_⟩
              obtain rfl := hb3 (by omega); have H := H.more H'; clear H'; simp only [List.cons_append, List.nil_append] at H
              refine k_nil ?_
              refine t_on trivial ?_
              refine t_up1 10 (by kernel_rfl) ?_
              refine up_mk rfl ?_
              refine s_st (u := .slice _ _ _) H 4 rfl rfl rfl rfl rfl rfl sz52 ?_
              intro _ H'; simp only [List.set_cons_zero, List.set_cons_succ, List.take_succ_cons, List.take_zero, List.drop_succ_cons, List.drop_zero, List.cons_append, List.nil_append, List.append_nil, List.length_cons, List.length_nil, Nat.reduceAdd] at H'; clear H; have H := H'; clear H'
              refine k_nil ?_
              refine t_on trivial ?_
              refine t_take 11 rfl (by kernel_rfl) (by kernel_rfl) (by kernel_rfl) rfl (fun _ _ _ _ h => nomatch h.1) rfl (fun _ hS => r_fa0 rfl fo55_3) trivial ?_
              refine t_up1 12 (by kernel_rfl) ?_
              refine up_mk rfl ?_
              refine s_st (u := .slice _ _ _) H 4 rfl rfl rfl rfl rfl rfl sz53 ?_
              intro _ H'; simp only [List.set_cons_zero, List.set_cons_succ, List.take_succ_cons, List.take_zero, List.drop_succ_cons, List.drop_zero, List.cons_append, List.nil_append, List.append_nil, List.length_cons, List.length_nil, Nat.reduceAdd] at H'; clear H; have H := H'; clear H'
              refine k_nil ?_
              refine t_on trivial ?_
              refine t_take 13 rfl (by kernel_rfl) (by kernel_rfl) (by kernel_rfl) rfl (fun _ _ _ _ h => nomatch h.1) rfl (fun _ hS => r_fa0 rfl fo55_4) trivial ?_
              refine t_up1 14 (by kernel_rfl) ?_
              refine up_mk rfl ?_
              refine s_st (u := .slice _ _ _) H 4 rfl rfl rfl rfl rfl rfl sz53 ?_
              intro _ H'; simp only [List.set_cons_zero, List.set_cons_succ, List.take_succ_cons, List.take_zero, List.drop_succ_cons, List.drop_zero, List.cons_append, List.nil_append, List.append_nil, List.length_cons, List.length_nil, Nat.reduceAdd] at H'; clear H; have H := H'; clear H'
              refine k_nil ?_
              refine t_on trivial ?_
              refine t_done (by kernel_rfl) ?_
              refine k_met ?_
              exact ⟨_, _, _, _, _, _, rfl, rfl, rfl, H⟩
          · refine up_mk rfl ?_
            refine s_run rfl rfl (r_lo H 1 rfl rfl rfl ag53) ?_
            refine k_nil ?_
            refine t_on trivial ?_
            refine t_up2 2 7 (by kernel_rfl) ?_ ?_
            · refine up_mk rfl ?_
              refine s_call rfl (rLines A1 m _ d.last _ (hr.last.nilF.later H.only (by simp)) (by omega) hm) (ca111 rfl) ?_
              rintro e W1 ⟨A1', b1, c1', rfl, hb1, H'⟩
              refine ⟨_, rfl, ?_⟩
              obtain rfl := hb1 (by omega); have H := H.more H'; clear H'; simp only [List.cons_append, List.nil_append] at H
              refine k_nil ?_
              refine t_on trivial ?_
              refine t_up2 5 7 (by kernel_rfl) ?_ ?_
              · refine up_mk rfl ?_
                refine s_call rfl (rFlags A3 m _ d.dirty _ (hr.dirty.nilF.later H.only (by simp)) (by omega) hm) (ca112 rfl) ?_
                rintro e W1 ⟨A2', b2, c2', rfl, hb2, H'⟩
                refine ⟨_, rfl, ?_⟩
                obtain rfl := hb2 (by omega); have H := H.more H'; clear H'; simp only [List.cons_append, List.nil_append] at H
                refine k_nil ?_
                refine t_on trivial ?_
                refine t_up1 7 (by kernel_rfl) ?_
                refine up_mk rfl ?_
                refine s_run rfl rfl (r_lo H 3 rfl rfl rfl ag53) ?_
                refine k_nil ?_
                refine t_on trivial ?_
                refine t_take 9 rfl (by kernel_rfl) (by kernel_rfl) (by kernel_rfl) rfl (fun _ _ _ _ h => nomatch h.1) rfl (fun _ hS => r_fa0 rfl fo55_1) trivial ?_
                refine t_up1 8 (by kernel_rfl) ?_
                refine up_mk rfl ?_
                refine s_call rfl (rFlags A4 m _ d.pend _ (hr.pend.nilF.later H.only (by simp)) (by omega) hm) (ca112 rfl) ?_
                rintro e W1 ⟨A3', b3, c3', rfl, hb3, H'⟩
                refine ⟨_, rfl, ?_⟩
                obtain rfl := hb3 (by omega); have H := H.more H'; clear H'; simp only [List.cons_append, List.nil_append] at H
                refine k_nil ?_
                refine t_on trivial ?_
                refine t_up1 10 (by kernel_rfl) ?_
                refine up_mk rfl ?_
                refine s_st (u := .slice _ _ _) H 4 rfl rfl rfl rfl rfl rfl sz52 ?_
                intro _ H'; simp only [List.set_cons_zero, List.set_cons_succ, List.take_succ_cons, List.take_zero, List.drop_succ_cons, List.drop_zero, List.cons_append, List.nil_append, List.append_nil, List.length_cons, List.length_nil, Nat.reduceAdd] at H'; clear H; have H := H'; clear H'
                refine k_nil ?_
                refine t_on trivial ?_
                refine t_take 11 rfl (by kernel_rfl) (by kernel_rfl) (by kernel_rfl) rfl (fun _ _ _ _ h => nomatch h.1) rfl (fun _ hS => r_fa0 rfl fo55_3) trivial ?_
                refine t_up1 12 (by kernel_rfl) ?_
                refine up_mk rfl ?_
                refine s_st (u := .slice _ _ _) H 4 rfl rfl rfl rfl rfl rfl sz53 ?_
                intro _ H'; simp only [List.set_cons_zero, List.set_cons_succ, List.take_succ_cons, List.take_zero, List.drop_succ_cons, List.drop_zero, List.cons_append, List.nil_append, List.append_nil, List.length_cons, List.length_nil, Nat.reduceAdd] at H'; clear H; have H := H'; clear H'
                refine k_nil ?_
                refine t_on trivial ?_
                refine t_take 13 rfl (by kernel_rfl) (by kernel_rfl) (by kernel_rfl) rfl (fun _ _ _ _ h => nomatch h.1) rfl (fun _ hS => r_fa0 rfl fo55_4) trivial ?_
                refine t_up1 14 (by kernel_rfl) ?_
                refine up_mk rfl ?_
                refine s_st (u := .slice _ _ _) H 4 rfl rfl rfl rfl rfl rfl sz53 ?_
                intro _ H'; simp only [List.set_cons_zero, List.set_cons_succ, List.take_succ_cons, List.take_zero, List.drop_succ_cons, List.drop_zero, List.cons_append, List.nil_append, List.append_nil, List.length_cons, List.length_nil, Nat.reduceAdd] at H'; clear H; have H := H'; clear H'
                refine k_nil ?_
                refine t_on trivial ?_
                refine t_done (by kernel_rfl) ?_
                refine k_met ?_
                exact ⟨_, _, _, _, _, _, rfl, rfl, rfl, H⟩
              · refine up_mk rfl ?_
                refine s_run rfl rfl (r_lo H 2 rfl rfl rfl ag53) ?_
                refine k_nil ?_
                refine t_on trivial ?_
                refine t_take 9 rfl (by kernel_rfl) (by kernel_rfl) (by kernel_rfl) rfl (fun _ _ _ _ h => nomatch h.1) rfl (fun _ hS => r_fa0 rfl fo55_1) trivial ?_
                refine t_up1 5 (by kernel_rfl) ?_
                refine up_mk rfl ?_
                refine s_call rfl (rFlags A3 m _ d.dirty _ (hr.dirty.nilF.later H.only (by simp)) (by omega) hm) (ca112 rfl) ?_
                rintro e W1 ⟨A2', b2, c2', rfl, hb2, H'⟩
                refine ⟨_, rfl, ?_⟩
                obtain rfl := hb2 (by omega); have H := H.more H'; clear H'; simp only [List.cons_append, List.nil_append] at H
                refine k_nil ?_
                refine t_on trivial ?_
                refine t_up1 8 (by kernel_rfl) ?_
                refine up_mk rfl ?_
                refine s_call rfl (rFlags A4 m _ d.pend _ (hr.pend.nilF.later H.only (by simp)) (by omega) hm) (ca112 rfl) ?_
                rintro e W1 ⟨A3', b3, c3', rfl, hb3, H'⟩
                refine ⟨_, rfl, ?_⟩
                obtain rfl := hb3 (by omega); have H := H.more H'; clear H'; simp only [List.cons_append, List.nil_append] at H
                refine k_nil ?_
                refine t_on trivial ?_
                refine t_up1 10 (by kernel_rfl) ?_
                refine up_mk rfl ?_
                refine s_st (u := .slice _ _ _) H 4 rfl rfl rfl rfl rfl rfl sz52 ?_
                intro _ H'; simp only [List.set_cons_zero, List.set_cons_succ, List.take_succ_cons, List.take_zero, List.drop_succ_cons, List.drop_zero, List.cons_append, List.nil_append, List.append_nil, List.length_cons, List.length_nil, Nat.reduceAdd] at H'; clear H; have H := H'; clear H'
                refine k_nil ?_
                refine t_on trivial ?_
                refine t_take 11 rfl (by kernel_rfl) (by kernel_rfl) (by kernel_rfl) rfl (fun _ _ _ _ h => nomatch h.1) rfl (fun _ hS => r_fa0 rfl fo55_3) trivial ?_
                refine t_up1 12 (by kernel_rfl) ?_
                refine up_mk rfl ?_
                refine s_st (u := .slice _ _ _) H 4 rfl rfl rfl rfl rfl rfl sz53 ?_
                intro _ H'; simp only [List.set_cons_zero, List.set_cons_succ, List.take_succ_cons, List.take_zero, List.drop_succ_cons, List.drop_zero, List.cons_append, List.nil_append, List.append_nil, List.length_cons, List.length_nil, Nat.reduceAdd] at H'; clear H; have H := H'; clear H'
                refine k_nil ?_
                refine t_on trivial ?_
                refine t_take 13 rfl (by kernel_rfl) (by kernel_rfl) (by kernel_rfl) rfl (fun _ _ _ _ h => nomatch h.1) rfl (fun _ hS => r_fa0 rfl fo55_4) trivial ?_
                refine t_up1 14 (by kernel_rfl) ?_
                refine up_mk rfl ?_
                refine s_st (u := .slice _ _ _) H 4 rfl rfl rfl rfl rfl rfl sz53 ?_
                intro _ H'; simp only [List.set_cons_zero, List.set_cons_succ, List.take_succ_cons, List.take_zero, List.drop_succ_cons, List.drop_zero, List.cons_append, List.nil_append, List.append_nil, List.length_cons, List.length_nil, Nat.reduceAdd] at H'; clear H; have H := H'; clear H'
                refine k_nil ?_
                refine t_on trivial ?_
                refine t_done (by kernel_rfl) ?_
                refine k_met ?_
                exact ⟨_, _, _, _, _, _, rfl, rfl, rfl, H⟩
            · refine up_mk rfl ?_
              refine s_run rfl rfl (r_lo H 1 rfl rfl rfl ag53) ?_
              refine k_nil ?_
              refine t_on trivial ?_
              refine t_up1 2 (by kernel_rfl) ?_
              refine up_mk rfl ?_
              refine s_call rfl (rLines A1 m _ d.last _ (hr.last.nilF.later H.only (by simp)) (by omega) hm) (ca111 rfl) ?_
              rintro e W1 ⟨A1', b1, c1', rfl, hb1, H'⟩
              refine ⟨_, rfl, ?_⟩
              obtain rfl := hb1 (by omega); have H := H.more H'; clear H'; simp only [List.cons_append, List.nil_append] at H
              refine k_nil ?_
              refine t_on trivial ?_
              refine t_take 9 rfl (by kernel_rfl) (by kernel_rfl) (by kernel_rfl) rfl (fun _ _ _ _ h => nomatch h.1) rfl (fun _ hS => r_fa0 rfl fo55_1) trivial ?_
              refine t_up1 5 (by kernel_rfl) ?_
              refine up_mk rfl ?_
              refine s_call rfl (rFlags A3 m _ d.dirty _ (hr.dirty.nilF.later H.only (by simp)) (by omega) hm) (ca112 rfl) ?_
              rintro e W1 ⟨A2', b2, c2', rfl, hb2, H'⟩
              refine ⟨_, rfl, ?_⟩
              obtain rfl := hb2 (by omega); have H := H.more H'; clear H'; simp only [List.cons_append, List.nil_append] at H
              refine k_nil ?_
              refine t_on trivial ?_
              refine t_up1 8 (by kernel_rfl) ?_
              refine up_mk rfl ?_
              refine s_call rfl (rFlags A4 m _ d.pend _ (hr.pend.nilF.later H.only (by simp)) (by omega) hm) (ca112 rfl) ?_
              rintro e W1 ⟨A3', b3, c3', rfl, hb3, H'⟩
              refine ⟨_, rfl, ?_⟩
              obtain rfl := hb3 (by omega); have H := H.more H'; clear H'; simp only [List.cons_append, List.nil_append] at H
              refine k_nil ?_
              refine t_on trivial ?_
              refine t_up1 10 (by kernel_rfl) ?_
              refine up_mk rfl ?_
              refine s_st (u := .slice _ _ _) H 4 rfl rfl rfl rfl rfl rfl sz52 ?_
              intro _ H'; simp only [List.set_cons_zero, List.set_cons_succ, List.take_succ_cons, List.take_zero, List.drop_succ_cons, List.drop_zero, List.cons_append, List.nil_append, List.append_nil, List.length_cons, List.length_nil, Nat.reduceAdd] at H'; clear H; have H := H'; clear H'
              refine k_nil ?_
              refine t_on trivial ?_
              refine t_take 11 rfl (by kernel_rfl) (by kernel_rfl) (by kernel_rfl) rfl (fun _ _ _ _ h => nomatch h.1) rfl (fun _ hS => r_fa0 rfl fo55_3) trivial ?_
              refine t_up1 12 (by kernel_rfl) ?_
              refine up_mk rfl ?_
              refine s_st (u := .slice _ _ _) H 4 rfl rfl rfl rfl rfl rfl sz53 ?_
              intro _ H'; simp only [List.set_cons_zero, List.set_cons_succ, List.take_succ_cons, List.take_zero, List.drop_succ_cons, List.drop_zero, List.cons_append, List.nil_append, List.append_nil, List.length_cons, List.length_nil, Nat.reduceAdd] at H'; clear H; have H := H'; clear H'
              refine k_nil ?_
              refine t_on trivial ?_
              refine t_take 13 rfl (by kernel_rfl) (by kernel_rfl) (by kernel_rfl) rfl (fun _ _ _ _ h => nomatch h.1) rfl (fun _ hS => r_fa0 rfl fo55_4) trivial ?_
              refine t_up1 14 (by kernel_rfl) ?_
              refine up_mk rfl ?_
              refine s_st (u := .slice _ _ _) H 4 rfl rfl rfl rfl rfl rfl sz53 ?_
              intro _ H'; simp only [List.set_cons_zero, List.set_cons_succ, List.take_succ_cons, List.take_zero, List.drop_succ_cons, List.drop_zero, List.cons_append, List.nil_append, List.append_nil, List.length_cons, List.length_nil, Nat.reduceAdd] at H'; clear H; have H := H'; clear H'
              refine k_nil ?_
              refine t_on trivial ?_
              refine t_done (by kernel_rfl) ?_
              refine k_met ?_
              exact ⟨_, _, _, _, _, _, rfl, rfl, rfl, H⟩
          · refine up_mk rfl ?_
            refine s_run rfl rfl (r_lo H 1 rfl rfl rfl ag53) ?_
            refine k_nil ?_
            refine t_on trivial ?_
            refine t_up2 2 4 (by kernel_rfl) ?_ ?_
            · refine up_mk rfl ?_
              refine s_call rfl (rLines A1 m _ d.last _ (hr.last.nilF.later H.only (by simp)) (by omega) hm) (ca111 rfl) ?_
              rintro e W1 ⟨A1', b1, c1', rfl, hb1, H'⟩
              refine ⟨_, rfl, ?_⟩
              obtain rfl := hb1 (by omega); have H := H.more H'; clear H'; simp only [List.cons_append, List.nil_append] at H
              refine k_nil ?_
              refine t_on trivial ?_
              refine t_up1 4 (by kernel_rfl) ?_
              refine up_mk rfl ?_
              refine s_run rfl rfl (r_lo H 2 rfl rfl rfl ag53) ?_
              refine k_nil ?_
              refine t_on trivial ?_
              refine t_take 9 rfl (by kernel_rfl) (by kernel_rfl) (by kernel_rfl) rfl (fun _ _ _ _ h => nomatch h.1) rfl (fun _ hS => r_fa0 rfl fo55_1) trivial ?_
              refine t_up1 5 (by kernel_rfl) ?_
              refine up_mk rfl ?_
              refine s_call rfl (rFlags A3 m _ d.dirty _ (hr.dirty.nilF.later H.only (by simp)) (by omega) hm) (ca112 rfl) ?_
              rintro e W1 ⟨A2', b2, c2', rfl, hb2, H'⟩
              refine ⟨_, rfl, ?_⟩
              obtain rfl := hb2 (by omega); have H := H.more H'; clear H'; simp only [List.cons_append, List.nil_append] at H
              refine k_nil ?_
              refine t_on trivial ?_
              refine t_up1 8 (by kernel_rfl) ?_
              refine up_mk rfl ?_
              refine s_call rfl (rFlags A4 m _ d.pend _ (hr.pend.nilF.later H.only (by simp)) (by omega) hm) (ca112 rfl) ?_
              rintro e W1 ⟨A3', b3, c3', rfl, hb3, H'⟩
              refine ⟨_, rfl, ?_⟩
              obtain rfl := hb3 (by omega); have H := H.more H'; clear H'; simp only [List.cons_append, List.nil_append] at H
              refine k_nil ?_
              refine t_on trivial ?_
              refine t_up1 10 (by kernel_rfl) ?_
              refine up_mk rfl ?_
              refine s_st (u := .slice _ _ _) H 4 rfl rfl rfl rfl rfl rfl sz52 ?_
              intro _ H'; simp only [List.set_cons_zero, List.set_cons_succ, List.take_succ_cons, List.take_zero, List.drop_succ_cons, List.drop_zero, List.cons_append, List.nil_append, List.append_nil, List.length_cons, List.length_nil, Nat.reduceAdd] at H'; clear H; have H := H'; clear H'
              refine k_nil ?_
              refine t_on trivial ?_
              refine t_take 11 rfl (by kernel_rfl) (by kernel_rfl) (by kernel_rfl) rfl (fun _ _ _ _ h => nomatch h.1) rfl (fun _ hS => r_fa0 rfl fo55_3) trivial ?_
              refine t_up1 12 (by kernel_rfl) ?_
              refine up_mk rfl ?_
              refine s_st (u := .slice _ _ _) H 4 rfl rfl rfl rfl rfl rfl sz53 ?_
              intro _ H'; simp only [List.set_cons_zero, List.set_cons_succ, List.take_succ_cons, List.take_zero, List.drop_succ_cons, List.drop_zero, List.cons_append, List.nil_append, List.append_nil, List.length_cons, List.length_nil, Nat.reduceAdd] at H'; clear H; have H := H'; clear H'
              refine k_nil ?_
              refine t_on trivial ?_
              refine t_take 13 rfl (by kernel_rfl) (by kernel_rfl) (by kernel_rfl) rfl (fun _ _ _ _ h => nomatch h.1) rfl (fun _ hS => r_fa0 rfl fo55_4) trivial ?_
              refine t_up1 14 (by kernel_rfl) ?_
              refine up_mk rfl ?_
              refine s_st (u := .slice _ _ _) H 4 rfl rfl rfl rfl rfl rfl sz53 ?_
              intro _ H'; simp only [List.set_cons_zero, List.set_cons_succ, List.take_succ_cons, List.take_zero, List.drop_succ_cons, List.drop_zero, List.cons_append, List.nil_append, List.append_nil, List.length_cons, List.length_nil, Nat.reduceAdd] at H'; clear H; have H := H'; clear H'
              refine k_nil ?_
              refine t_on trivial ?_
              refine t_done (by kernel_rfl) ?_
              refine k_met ?_
              exact ⟨_, _, _, _, _, _, rfl, rfl, rfl, H⟩
            · refine up_mk rfl ?_
              refine s_run rfl rfl (r_lo H 1 rfl rfl rfl ag53) ?_
              refine k_nil ?_
              refine t_on trivial ?_
              refine t_up1 2 (by kernel_rfl) ?_
              refine up_mk rfl ?_
              refine s_call rfl (rLines A1 m _ d.last _ (hr.last.nilF.later H.only (by simp)) (by omega) hm) (ca111 rfl) ?_
              rintro e W1 ⟨A1', b1, c1', rfl, hb1, H'⟩
              refine ⟨_, rfl, ?_⟩
              obtain rfl := hb1 (by omega); have H := H.more H'; clear H'; simp only [List.cons_append, List.nil_append] at H
              refine k_nil ?_
              refine t_on trivial ?_
              refine t_take 9 rfl (by kernel_rfl) (by kernel_rfl) (by kernel_rfl) rfl (fun _ _ _ _ h => nomatch h.1) rfl (fun _ hS => r_fa0 rfl fo55_1) trivial ?_
              refine t_up1 5 (by kernel_rfl) ?_
              refine up_mk rfl ?_
              refine s_call rfl (rFlags A3 m _ d.dirty _ (hr.dirty.nilF.later H.only (by simp)) (by omega) hm) (ca112 rfl) ?_
              rintro e W1 ⟨A2', b2, c2', rfl, hb2, H'⟩
              refine ⟨_, rfl, ?_⟩
              obtain rfl := hb2 (by omega); have H := H.more H'; clear H'; simp only [List.cons_append, List.nil_append] at H
              refine k_nil ?_
              refine t_on trivial ?_
              refine t_up1 8 (by kernel_rfl) ?_
              refine up_mk rfl ?_
              refine s_call rfl (rFlags A4 m _ d.pend _ (hr.pend.nilF.later H.only (by simp)) (by omega) hm) (ca112 rfl) ?_
              rintro e W1 ⟨A3', b3, c3', rfl, hb3, H'⟩
              refine ⟨_, rfl, ?_⟩
              obtain rfl := hb3 (by omega); have H := H.more H'; clear H'; simp only [List.cons_append, List.nil_append] at H
              refine k_nil ?_
              refine t_on trivial ?_
              refine t_up1 10 (by kernel_rfl) ?_
              refine up_mk rfl ?_
              refine s_st (u := .slice _ _ _) H 4 rfl rfl rfl rfl rfl rfl sz52 ?_
              intro _ H'; simp only [List.set_cons_zero, List.set_cons_succ, List.take_succ_cons, List.take_zero, List.drop_succ_cons, List.drop_zero, List.cons_append, List.nil_append, List.append_nil, List.length_cons, List.length_nil, Nat.reduceAdd] at H'; clear H; have H := H'; clear H'
              refine k_nil ?_
              refine t_on trivial ?_
              refine t_take 11 rfl (by kernel_rfl) (by kernel_rfl) (by kernel_rfl) rfl (fun _ _ _ _ h => nomatch h.1) rfl (fun _ hS => r_fa0 rfl fo55_3) trivial ?_
              refine t_up1 12 (by kernel_rfl) ?_
              refine up_mk rfl ?_
              refine s_st (u := .slice _ _ _) H 4 rfl rfl rfl rfl rfl rfl sz53 ?_
              intro _ H'; simp only [List.set_cons_zero, List.set_cons_succ, List.take_succ_cons, List.take_zero, List.drop_succ_cons, List.drop_zero, List.cons_append, List.nil_append, List.append_nil, List.length_cons, List.length_nil, Nat.reduceAdd] at H'; clear H; have H := H'; clear H'
              refine k_nil ?_
              refine t_on trivial ?_
              refine t_take 13 rfl (by kernel_rfl) (by kernel_rfl) (by kernel_rfl) rfl (fun _ _ _ _ h => nomatch h.1) rfl (fun _ hS => r_fa0 rfl fo55_4) trivial ?_
              refine t_up1 14 (by kernel_rfl) ?_
              refine up_mk rfl ?_
              refine s_st (u := .slice _ _ _) H 4 rfl rfl rfl rfl rfl rfl sz53 ?_
              intro _ H'; simp only [List.set_cons_zero, List.set_cons_succ, List.take_succ_cons, List.take_zero, List.drop_succ_cons, List.drop_zero, List.cons_append, List.nil_append, List.append_nil, List.length_cons, List.length_nil, Nat.reduceAdd] at H'; clear H; have H := H'; clear H'
              refine k_nil ?_
              refine t_on trivial ?_
              refine t_done (by kernel_rfl) ?_
              refine k_met ?_
              exact ⟨_, _, _, _, _, _, rfl, rfl, rfl, H⟩
        · refine up_mk rfl ?_
          refine s_run rfl rfl (r_lo H 1 rfl rfl rfl ag53) ?_
          refine k_nil ?_
          refine t_on trivial ?_
          refine t_up2 1 7 (by kernel_rfl) ?_ ?_
          · refine up_mk rfl ?_
            refine s_run rfl rfl (r_lo H 1 rfl rfl rfl ag52) ?_
            refine k_nil ?_
            refine t_on trivial ?_
            refine t_up2 2 7 (by kernel_rfl) ?_ ?_
            · refine up_mk rfl ?_
              refine s_call rfl (rLines A1 m _ d.last _ (hr.last.nilF.later H.only (by simp)) (by omega) hm) (ca111 rfl) ?_
              rintro e W1 ⟨A1', b1, c1', rfl, hb1, H'⟩
              refine ⟨_, rfl, ?_⟩
              obtain rfl := hb1 (by omega); have H := H.more H'; clear H'; simp only [List.cons_append, List.nil_append] at H
              refine k_nil ?_
              refine t_on trivial ?_
              refine t_up2 5 7 (by kernel_rfl) ?_ ?_
              · refine up_mk rfl ?_
                refine s_call rfl (rFlags A3 m _ d.dirty _ (hr.dirty.nilF.later H.only (by simp)) (by omega) hm) (ca112 rfl) ?_
                rintro e W1 ⟨A2', b2, c2', rfl, hb2, H'⟩
                refine ⟨_, rfl, ?_⟩
                obtain rfl := hb2 (by omega); have H := H.more H'; clear H'; simp only [List.cons_append, List.nil_append] at H
                refine k_nil ?_
                refine t_on trivial ?_
                refine t_up1 7 (by kernel_rfl) ?_
                refine up_mk rfl ?_
                refine s_run rfl rfl (r_lo H 3 rfl rfl rfl ag53) ?_
                refine k_nil ?_
                refine t_on trivial ?_
                refine t_take 9 rfl (by kernel_rfl) (by kernel_rfl) (by kernel_rfl) rfl (fun _ _ _ _ h => nomatch h.1) rfl (fun _ hS => r_fa0 rfl fo55_1) trivial ?_
                refine t_up1 8 (by kernel_rfl) ?_
                refine up_mk rfl ?_
                refine s_call rfl (rFlags A4 m _ d.pend _ (hr.pend.nilF.later H.only (by simp)) (by omega) hm) (ca112 rfl) ?_
                rintro e W1 ⟨A3', b3, c3', rfl, hb3, H'⟩
                refine ⟨_, rfl, ?_⟩
                obtain rfl := hb3 (by omega); have H := H.more H'; clear H'; simp only [List.cons_append, List.nil_append] at H
                refine k_nil ?_
                refine t_on trivial ?_
                refine t_up1 10 (by kernel_rfl) ?_
                refine up_mk rfl ?_
                refine s_st (u := .slice _ _ _) H 4 rfl rfl rfl rfl rfl rfl sz52 ?_
                intro _ H'; simp only [List.set_cons_zero, List.set_cons_succ, List.take_succ_cons, List.take_zero, List.drop_succ_cons, List.drop_zero, List.cons_append, List.nil_append, List.append_nil, List.length_cons, List.length_nil, Nat.reduceAdd] at H'; clear H; have H := H'; clear H'
                refine k_nil ?_
                refine t_on trivial ?_
                refine t_take 11 rfl (by kernel_rfl) (by kernel_rfl) (by kernel_rfl) rfl (fun _ _ _ _ h => nomatch h.1) rfl (fun _ hS => r_fa0 rfl fo55_3) trivial ?_
                refine t_up1 12 (by kernel_rfl) ?_
                refine up_mk rfl ?_
                refine s_st (u := .slice _ _ _) H 4 rfl rfl rfl rfl rfl rfl sz53 ?_
                intro _ H'; simp only [List.set_cons_zero, List.set_cons_succ, List.take_succ_cons, List.take_zero, List.drop_succ_cons, List.drop_zero, List.cons_append, List.nil_append, List.append_nil, List.length_cons, List.length_nil, Nat.reduceAdd] at H'; clear H; have H := H'; clear H'
                refine k_nil ?_
                refine t_on trivial ?_
                refine t_take 13 rfl (by kernel_rfl) (by kernel_rfl) (by kernel_rfl) rfl (fun _ _ _ _ h => nomatch h.1) rfl (fun _ hS => r_fa0 rfl fo55_4) trivial ?_
                refine t_up1 14 (by kernel_rfl) ?_
                refine up_mk rfl ?_
                refine s_st (u := .slice _ _ _) H 4 rfl rfl rfl rfl rfl rfl sz53 ?_
                intro _ H'; simp only [List.set_cons_zero, List.set_cons_succ, List.take_succ_cons, List.take_zero, List.drop_succ_cons, List.drop_zero, List.cons_append, List.nil_append, List.append_nil, List.length_cons, List.length_nil, Nat.reduceAdd] at H'; clear H; have H := H'; clear H'
                refine k_nil ?_
                refine t_on trivial ?_
                refine t_done (by kernel_rfl) ?_
                refine k_met ?_
                exact ⟨_, _, _, _, _, _, rfl, rfl, rfl, H⟩
              · refine up_mk rfl ?_
                refine s_run rfl rfl (r_lo H 2 rfl rfl rfl ag53) ?_
                refine k_nil ?_
                refine t_on trivial ?_
                refine t_take 9 rfl (by kernel_rfl) (by kernel_rfl) (by kernel_rfl) rfl (fun _ _ _ _ h => nomatch h.1) rfl (fun _ hS => r_fa0 rfl fo55_1) trivial ?_
                refine t_up1 5 (by kernel_rfl) ?_
                refine up_mk rfl ?_
                refine s_call rfl (rFlags A3 m _ d.dirty _ (hr.dirty.nilF.later H.only (by simp)) (by omega) hm) (ca112 rfl) ?_
                rintro e W1 ⟨A2', b2, c2', rfl, hb2, H'⟩
                refine ⟨_, rfl, ?_⟩
                obtain rfl := hb2 (by omega); have H := H.more H'; clear H'; simp only [List.cons_append, List.nil_append] at H
                refine k_nil ?_
                refine t_on trivial ?_
                refine t_up1 8 (by kernel_rfl) ?_
                refine up_mk rfl ?_
                refine s_call rfl (rFlags A4 m _ d.pend _ (hr.pend.nilF.later H.only (by simp)) (by omega) hm) (ca112 rfl) ?_
                rintro e W1 ⟨A3', b3, c3', rfl, hb3, H'⟩
                refine ⟨_, rfl, ?_⟩
                obtain rfl := hb3 (by omega); have H := H.more H'; clear H'; simp only [List.cons_append, List.nil_append] at H
                refine k_nil ?_
                refine t_on trivial ?_
                refine t_up1 10 (by kernel_rfl) ?_
                refine up_mk rfl ?_
                refine s_st (u := .slice _ _ _) H 4 rfl rfl rfl rfl rfl rfl sz52 ?_
                intro _ H'; simp only [List.set_cons_zero, List.set_cons_succ, List.take_succ_cons, List.take_zero, List.drop_succ_cons, List.drop_zero, List.cons_append, List.nil_append, List.append_nil, List.length_cons, List.length_nil, Nat.reduceAdd] at H'; clear H; have H := H'; clear H'
                refine k_nil ?_
                refine t_on trivial ?_
                refine t_take 11 rfl (by kernel_rfl) (by kernel_rfl) (by kernel_rfl) rfl (fun _ _ _ _ h => nomatch h.1) rfl (fun _ hS => r_fa0 rfl fo55_3) trivial ?_
                refine t_up1 12 (by kernel_rfl) ?_
                refine up_mk rfl ?_
                refine s_st (u := .slice _ _ _) H 4 rfl rfl rfl rfl rfl rfl sz53 ?_
                intro _ H'; simp only [List.set_cons_zero, List.set_cons_succ, List.take_succ_cons, List.take_zero, List.drop_succ_cons, List.drop_zero, List.cons_append, List.nil_append, List.append_nil, List.length_cons, List.length_nil, Nat.reduceAdd] at H'; clear H; have H := H'; clear H'
                refine k_nil ?_
                refine t_on trivial ?_
                refine t_take 13 rfl (by kernel_rfl) (by kernel_rfl) (by kernel_rfl) rfl (fun _ _ _ _ h => nomatch h.1) rfl (fun _ hS => r_fa0 rfl fo55_4) trivial ?_
                refine t_up1 14 (by kernel_rfl) ?_
                refine up_mk rfl ?_
                refine s_st (u := .slice _ _ _) H 4 rfl rfl rfl rfl rfl rfl sz53 ?_
                intro _ H'; simp only [List.set_cons_zero, List.set_cons_succ, List.take_succ_cons, List.take_zero, List.drop_succ_cons, List.drop_zero, List.cons_append, List.nil_append, List.append_nil, List.length_cons, List.length_nil, Nat.reduceAdd] at H'; clear H; have H := H'; clear H'
                refine k_nil ?_
                refine t_on trivial ?_
                refine t_done (by kernel_rfl) ?_
                refine k_met ?_
                exact ⟨_, _, _, _, _, _, rfl, rfl, rfl, H⟩
            · refine up_mk rfl ?_
              refine s_run rfl rfl (r_lo H 1 rfl rfl rfl ag53) ?_
              refine k_nil ?_
              refine t_on trivial ?_
              refine t_up1 2 (by kernel_rfl) ?_
              refine up_mk rfl ?_
              refine s_call rfl (rLines A1 m _ d.last _ (hr.last.nilF.later H.only (by simp)) (by omega) hm) (ca111 rfl) ?_
              rintro e W1 ⟨A1', b1, c1', rfl, hb1, H'⟩
              refine ⟨_, rfl, ?_⟩
              obtain rfl := hb1 (by omega); have H := H.more H'; clear H'; simp only [List.cons_append, List.nil_append] at H
              refine k_nil ?_
              refine t_on trivial ?_
              refine t_take 9 rfl (by kernel_rfl) (by kernel_rfl) (by kernel_rfl) rfl (fun _ _ _ _ h => nomatch h.1) rfl (fun _ hS => r_fa0 rfl fo55_1) trivial ?_
              refine t_up1 5 (by kernel_rfl) ?_
              refine up_mk rfl ?_
              refine s_call rfl (rFlags A3 m _ d.dirty _ (hr.dirty.nilF.later H.only (by simp)) (by omega) hm) (ca112 rfl) ?_
              rintro e W1 ⟨A2', b2, c2', rfl, hb2, H'⟩
              refine ⟨_, rfl, ?_⟩
              obtain rfl := hb2 (by omega); have H := H.more H'; clear H'; simp only [List.cons_append, List.nil_append] at H
              refine k_nil ?_
              refine t_on trivial ?_
              refine t_up1 8 (by kernel_rfl) ?_
              refine up_mk rfl ?_
              refine s_call rfl (rFlags A4 m _ d.pend _ (hr.pend.nilF.later H.only (by simp)) (by omega) hm) (ca112 rfl) ?_
              rintro e W1 ⟨A3', b3, c3', rfl, hb3, H'⟩
              refine ⟨_, rfl, ?_⟩
              obtain rfl := hb3 (by omega); have H := H.more H'; clear H'; simp only [List.cons_append, List.nil_append] at H
              refine k_nil ?_
              refine t_on trivial ?_
              refine t_up1 10 (by kernel_rfl) ?_
              refine up_mk rfl ?_
              refine s_st (u := .slice _ _ _) H 4 rfl rfl rfl rfl rfl rfl sz52 ?_
              intro _ H'; simp only [List.set_cons_zero, List.set_cons_succ, List.take_succ_cons, List.take_zero, List.drop_succ_cons, List.drop_zero, List.cons_append, List.nil_append, List.append_nil, List.length_cons, List.length_nil, Nat.reduceAdd] at H'; clear H; have H := H'; clear H'
              refine k_nil ?_
              refine t_on trivial ?_
              refine t_take 11 rfl (by kernel_rfl) (by kernel_rfl) (by kernel_rfl) rfl (fun _ _ _ _ h => nomatch h.1) rfl (fun _ hS => r_fa0 rfl fo55_3) trivial ?_
              refine t_up1 12 (by kernel_rfl) ?_
              refine up_mk rfl ?_
              refine s_st (u := .slice _ _ _) H 4 rfl rfl rfl rfl rfl rfl sz53 ?_
              intro _ H'; simp only [List.set_cons_zero, List.set_cons_succ, List.take_succ_cons, List.take_zero, List.drop_succ_cons, List.drop_zero, List.cons_append, List.nil_append, List.append_nil, List.length_cons, List.length_nil, Nat.reduceAdd] at H'; clear H; have H := H'; clear H'
              refine k_nil ?_
              refine t_on trivial ?_
              refine t_take 13 rfl (by kernel_rfl) (by kernel_rfl) (by kernel_rfl) rfl (fun _ _ _ _ h => nomatch h.1) rfl (fun _ hS => r_fa0 rfl fo55_4) trivial ?_
              refine t_up1 14 (by kernel_rfl) ?_
              refine up_mk rfl ?_
              refine s_st (u := .slice _ _ _) H 4 rfl rfl rfl rfl rfl rfl sz53 ?_
              intro _ H'; simp only [List.set_cons_zero, List.set_cons_succ, List.take_succ_cons, List.take_zero, List.drop_succ_cons, List.drop_zero, List.cons_append, List.nil_append, List.append_nil, List.length_cons, List.length_nil, Nat.reduceAdd] at H'; clear H; have H := H'; clear H'
              refine k_nil ?_
              refine t_on trivial ?_
              refine t_done (by kernel_rfl) ?_
              refine k_met ?_
              exact ⟨_, _, _, _, _, _, rfl, rfl, rfl, H⟩
          · refine up_mk rfl ?_
            refine s_run rfl rfl (r_lo H 1 rfl rfl rfl ag53) ?_
            refine k_nil ?_
            refine t_on trivial ?_
            refine t_up1 1 (by kernel_rfl) ?_
            refine up_mk rfl ?_
            refine s_run rfl rfl (r_lo H 1 rfl rfl rfl ag52) ?_
            refine k_nil ?_
            refine t_on trivial ?_
            refine t_up1 2 (by kernel_rfl) ?_
            refine up_mk rfl ?_
            refine s_call rfl (rLines A1 m _ d.last _ (hr.last.nilF.later H.only (by simp)) (by omega) hm) (ca111 rfl) ?_
            rintro e W1 ⟨A1', b1, c1', rfl, hb1, H'⟩
            refine ⟨_, rfl, ?_⟩
            obtain rfl := hb1 (by omega); have H := H.more H'; clear H'; simp only [List.cons_append, List.nil_append] at H
            refine k_nil ?_
            refine t_on trivial ?_
            refine t_take 9 rfl (by kernel_rfl) (by kernel_rfl) (by kernel_rfl) rfl (fun _ _ _ _ h => nomatch h.1) rfl (fun _ hS => r_fa0 rfl fo55_1) trivial ?_
            refine t_up1 5 (by kernel_rfl) ?_
            refine up_mk rfl ?_
            refine s_call rfl (rFlags A3 m _ d.dirty _ (hr.dirty.nilF.later H.only (by simp)) (by omega) hm) (ca112 rfl) ?_
            rintro e W1 ⟨A2', b2, c2', rfl, hb2, H'⟩
            refine ⟨_, rfl, ?_⟩
            obtain rfl := hb2 (by omega); have H := H.more H'; clear H'; simp only [List.cons_append, List.nil_append] at H
            refine k_nil ?_
            refine t_on trivial ?_
            refine t_up1 8 (by kernel_rfl) ?_
            refine up_mk rfl ?_
            refine s_call rfl (rFlags A4 m _ d.pend _ (hr.pend.nilF.later H.only (by simp)) (by omega) hm) (ca112 rfl) ?_
            rintro e W1 ⟨A3', b3, c3', rfl, hb3, H'⟩
            refine ⟨_, rfl, ?_⟩
            obtain rfl := hb3 (by omega); have H := H.more H'; clear H'; simp only [List.cons_append, List.nil_append] at H
            refine k_nil ?_
            refine t_on trivial ?_
            refine t_up1 10 (by kernel_rfl) ?_
            refine up_mk rfl ?_
            refine s_st (u := .slice _ _ _) H 4 rfl rfl rfl rfl rfl rfl sz52 ?_
            intro _ H'; simp only [List.set_cons_zero, List.set_cons_succ, List.take_succ_cons, List.take_zero, List.drop_succ_cons, List.drop_zero, List.cons_append, List.nil_append, List.append_nil, List.length_cons, List.length_nil, Nat.reduceAdd] at H'; clear H; have H := H'; clear H'
            refine k_nil ?_
            refine t_on trivial ?_
            refine t_take 11 rfl (by kernel_rfl) (by kernel_rfl) (by kernel_rfl) rfl (fun _ _ _ _ h => nomatch h.1) rfl (fun _ hS => r_fa0 rfl fo55_3) trivial ?_
            refine t_up1 12 (by kernel_rfl) ?_
            refine up_mk rfl ?_
            refine s_st (u := .slice _ _ _) H 4 rfl rfl rfl rfl rfl rfl sz53 ?_
            intro _ H'; simp only [List.set_cons_zero, List.set_cons_succ, List.take_succ_cons, List.take_zero, List.drop_succ_cons, List.drop_zero, List.cons_append, List.nil_append, List.append_nil, List.length_cons, List.length_nil, Nat.reduceAdd] at H'; clear H; have H := H'; clear H'
            refine k_nil ?_
            refine t_on trivial ?_
            refine t_take 13 rfl (by kernel_rfl) (by kernel_rfl) (by kernel_rfl) rfl (fun _ _ _ _ h => nomatch h.1) rfl (fun _ hS => r_fa0 rfl fo55_4) trivial ?_
            refine t_up1 14 (by kernel_rfl) ?_
            refine up_mk rfl ?_
            refine s_st (u := .slice _ _ _) H 4 rfl rfl rfl rfl rfl rfl sz53 ?_
            intro _ H'; simp only [List.set_cons_zero, List.set_cons_succ, List.take_succ_cons, List.take_zero, List.drop_succ_cons, List.drop_zero, List.cons_append, List.nil_append, List.append_nil, List.length_cons, List.length_nil, Nat.reduceAdd] at H'; clear H; have H := H'; clear H'
            refine k_nil ?_
            refine t_on trivial ?_
            refine t_done (by kernel_rfl) ?_
            refine k_met ?_
            exact ⟨_, _, _, _, _, _, rfl, rfl, rfl, H⟩
        · refine up_mk rfl ?_
          refine s_run rfl rfl (r_lo H 1 rfl rfl rfl ag53) ?_
          refine k_nil ?_
          refine t_on trivial ?_
          refine t_up2 1 4 (by kernel_rfl) ?_ ?_
          · refine up_mk rfl ?_
            refine s_run rfl rfl (r_lo H 1 rfl rfl rfl ag52) ?_
            refine k_nil ?_
            refine t_on trivial ?_
            refine t_up2 2 4 (by kernel_rfl) ?_ ?_
            · refine up_mk rfl ?_
              refine s_call rfl (rLines A1 m _ d.last _ (hr.last.nilF.later H.only (by simp)) (by omega) hm) (ca111 rfl) ?_
              rintro e W1 ⟨A1', b1, c1', rfl, hb1, H'⟩
              refine ⟨_, rfl, ?_⟩
              obtain rfl := hb1 (by omega); have H := H.more H'; clear H'; simp only [List.cons_append, List.nil_append] at H
              refine k_nil ?_
              refine t_on trivial ?_
              refine t_up1 4 (by kernel_rfl) ?_
              refine up_mk rfl ?_
              refine s_run rfl rfl (r_lo H 2 rfl rfl rfl ag53) ?_
              refine k_nil ?_
              refine t_on trivial ?_
              refine t_take 9 rfl (by kernel_rfl) (by kernel_rfl) (by kernel_rfl) rfl (fun _ _ _ _ h => nomatch h.1) rfl (fun _ hS => r_fa0 rfl fo55_1) trivial ?_
              refine t_up1 5 (by kernel_rfl) ?_
              refine up_mk rfl ?_
              refine s_call rfl (rFlags A3 m _ d.dirty _ (hr.dirty.nilF.later H.only (by simp)) (by omega) hm) (ca112 rfl) ?_
              rintro e W1 ⟨A2', b2, c2', rfl, hb2, H'⟩
              refine ⟨_, rfl, ?_⟩
              obtain rfl := hb2 (by omega); have H := H.more H'; clear H'; simp only [List.cons_append, List.nil_append] at H
              refine k_nil ?_
              refine t_on trivial ?_
              refine t_up1 8 (by kernel_rfl) ?_
              refine up_mk rfl ?_
              refine s_call rfl (rFlags A4 m _ d.pend _ (hr.pend.nilF.later H.only (by simp)) (by omega) hm) (ca112 rfl) ?_
              rintro e W1 ⟨A3', b3, c3', rfl, hb3, H'⟩
              refine ⟨_, rfl, ?_⟩
              obtain rfl := hb3 (by omega); have H := H.more H'; clear H'; simp only [List.cons_append, List.nil_append] at H
              refine k_nil ?_
              refine t_on trivial ?_
              refine t_up1 10 (by kernel_rfl) ?_
              refine up_mk rfl ?_
              refine s_st (u := .slice _ _ _) H 4 rfl rfl rfl rfl rfl rfl sz52 ?_
              intro _ H'; simp only [List.set_cons_zero, List.set_cons_succ, List.take_succ_cons, List.take_zero, List.drop_succ_cons, List.drop_zero, List.cons_append, List.nil_append, List.append_nil, List.length_cons, List.length_nil, Nat.reduceAdd] at H'; clear H; have H := H'; clear H'
              refine k_nil ?_
              refine t_on trivial ?_
              refine t_take 11 rfl (by kernel_rfl) (by kernel_rfl) (by kernel_rfl) rfl (fun _ _ _ _ h => nomatch h.1) rfl (fun _ hS => r_fa0 rfl fo55_3) trivial ?_
              refine t_up1 12 (by kernel_rfl) ?_
              refine up_mk rfl ?_
              refine s_st (u := .slice _ _ _) H 4 rfl rfl rfl rfl rfl rfl sz53 ?_
              intro _ H'; simp only [List.set_cons_zero, List.set_cons_succ, List.take_succ_cons, List.take_zero, List.drop_succ_cons, List.drop_zero, List.cons_append, List.nil_append, List.append_nil, List.length_cons, List.length_nil, Nat.reduceAdd] at H'; clear H; have H := H'; clear H'
              refine k_nil ?_
              refine t_on trivial ?_
              refine t_take 13 rfl (by kernel_rfl) (by kernel_rfl) (by kernel_rfl) rfl (fun _ _ _ _ h => nomatch h.1) rfl (fun _ hS => r_fa0 rfl fo55_4) trivial ?_
              refine t_up1 14 (by kernel_rfl) ?_
              refine up_mk rfl ?_
              refine s_st (u := .slice _ _ _) H 4 rfl rfl rfl rfl rfl rfl sz53 ?_
              intro _ H'; simp only [List.set_cons_zero, List.set_cons_succ, List.take_succ_cons, List.take_zero, List.drop_succ_cons, List.drop_zero, List.cons_append, List.nil_append, List.append_nil, List.length_cons, List.length_nil, Nat.reduceAdd] at H'; clear H; have H := H'; clear H'
              refine k_nil ?_
              refine t_on trivial ?_
              refine t_done (by kernel_rfl) ?_
              refine k_met ?_
              exact ⟨_, _, _, _, _, _, rfl, rfl, rfl, H⟩
            · refine up_mk rfl ?_
              refine s_run rfl rfl (r_lo H 1 rfl rfl rfl ag53) ?_
              refine k_nil ?_
              refine t_on trivial ?_
              refine t_up1 2 (by kernel_rfl) ?_
              refine up_mk rfl ?_
              refine s_call rfl (rLines A1 m _ d.last _ (hr.last.nilF.later H.only (by simp)) (by omega) hm) (ca111 rfl) ?_
              rintro e W1 ⟨A1', b1, c1', rfl, hb1, H'⟩
              refine ⟨_, rfl, ?_⟩
              obtain rfl := hb1 (by omega); have H := H.more H'; clear H'; simp only [List.cons_append, List.nil_append] at H
              refine k_nil ?_
              refine t_on trivial ?_
              refine t_take 9 rfl (by kernel_rfl) (by kernel_rfl) (by kernel_rfl) rfl (fun _ _ _ _ h => nomatch h.1) rfl (fun _ hS => r_fa0 rfl fo55_1) trivial ?_
              refine t_up1 5 (by kernel_rfl) ?_
              refine up_mk rfl ?_
              refine s_call rfl (rFlags A3 m _ d.dirty _ (hr.dirty.nilF.later H.only (by simp)) (by omega) hm) (ca112 rfl) ?_
              rintro e W1 ⟨A2', b2, c2', rfl, hb2, H'⟩
              refine ⟨_, rfl, ?_⟩
              obtain rfl := hb2 (by omega); have H := H.more H'; clear H'; simp only [List.cons_append, List.nil_append] at H
              refine k_nil ?_
              refine t_on trivial ?_
              refine t_up1 8 (by kernel_rfl) ?_
              refine up_mk rfl ?_
              refine s_call rfl (rFlags A4 m _ d.pend _ (hr.pend.nilF.later H.only (by simp)) (by omega) hm) (ca112 rfl) ?_
              rintro e W1 ⟨A3', b3, c3', rfl, hb3, H'⟩
              refine ⟨_, rfl, ?_⟩
              obtain rfl := hb3 (by omega); have H := H.more H'; clear H'; simp only [List.cons_append, List.nil_append] at H
              refine k_nil ?_
              refine t_on trivial ?_
              refine t_up1 10 (by kernel_rfl) ?_
              refine up_mk rfl ?_
              refine s_st (u := .slice _ _ _) H 4 rfl rfl rfl rfl rfl rfl sz52 ?_
              intro _ H'; simp only [List.set_cons_zero, List.set_cons_succ, List.take_succ_cons, List.take_zero, List.drop_succ_cons, List.drop_zero, List.cons_append, List.nil_append, List.append_nil, List.length_cons, List.length_nil, Nat.reduceAdd] at H'; clear H; have H := H'; clear H'
              refine k_nil ?_
              refine t_on trivial ?_
              refine t_take 11 rfl (by kernel_rfl) (by kernel_rfl) (by kernel_rfl) rfl (fun _ _ _ _ h => nomatch h.1) rfl (fun _ hS => r_fa0 rfl fo55_3) trivial ?_
              refine t_up1 12 (by kernel_rfl) ?_
              refine up_mk rfl ?_
              refine s_st (u := .slice _ _ _) H 4 rfl rfl rfl rfl rfl rfl sz53 ?_
              intro _ H'; simp only [List.set_cons_zero, List.set_cons_succ, List.take_succ_cons, List.take_zero, List.drop_succ_cons, List.drop_zero, List.cons_append, List.nil_append, List.append_nil, List.length_cons, List.length_nil, Nat.reduceAdd] at H'; clear H; have H := H'; clear H'
              refine k_nil ?_
              refine t_on trivial ?_
              refine t_take 13 rfl (by kernel_rfl) (by kernel_rfl) (by kernel_rfl) rfl (fun _ _ _ _ h => nomatch h.1) rfl (fun _ hS => r_fa0 rfl fo55_4) trivial ?_
              refine t_up1 14 (by kernel_rfl) ?_
              refine up_mk rfl ?_
              refine s_st (u := .slice _ _ _) H 4 rfl rfl rfl rfl rfl rfl sz53 ?_
              intro _ H'; simp only [List.set_cons_zero, List.set_cons_succ, List.take_succ_cons, List.take_zero, List.drop_succ_cons, List.drop_zero, List.cons_append, List.nil_append, List.append_nil, List.length_cons, List.length_nil, Nat.reduceAdd] at H'; clear H; have H := H'; clear H'
              refine k_nil ?_
              refine t_on trivial ?_
              refine t_done (by kernel_rfl) ?_
              refine k_met ?_
              exact ⟨_, _, _, _, _, _, rfl, rfl, rfl, H⟩
          · refine up_mk rfl ?_
            refine s_run rfl rfl (r_lo H 1 rfl rfl rfl ag53) ?_
            refine k_nil ?_
            refine t_on trivial ?_
            refine t_up1 1 (by kernel_rfl) ?_
            refine up_mk rfl ?_
            refine s_run rfl rfl (r_lo H 1 rfl rfl rfl ag52) ?_
            refine k_nil ?_
            refine t_on trivial ?_
            refine t_up1 2 (by kernel_rfl) ?_
            refine up_mk rfl ?_
            refine s_call rfl (rLines A1 m _ d.last _ (hr.last.nilF.later H.only (by simp)) (by omega) hm) (ca111 rfl) ?_
            rintro e W1 ⟨A1', b1, c1', rfl, hb1, H'⟩
            refine ⟨_, rfl, ?_⟩
            obtain rfl := hb1 (by omega); have H := H.more H'; clear H'; simp only [List.cons_append, List.nil_append] at H
            refine k_nil ?_
            refine t_on trivial ?_
            refine t_take 9 rfl (by kernel_rfl) (by kernel_rfl) (by kernel_rfl) rfl (fun _ _ _ _ h => nomatch h.1) rfl (fun _ hS => r_fa0 rfl fo55_1) trivial ?_
            refine t_up1 5 (by kernel_rfl) ?_
            refine up_mk rfl ?_
            refine s_call rfl (rFlags A3 m _ d.dirty _ (hr.dirty.nilF.later H.only (by simp)) (by omega) hm) (ca112 rfl) ?_
            rintro e W1 ⟨A2', b2, c2', rfl, hb2, H'⟩
            refine ⟨_, rfl, ?_⟩
            obtain rfl := hb2 (by omega); have H := H.more H'; clear H'; simp only [List.cons_append, List.nil_append] at H
            refine k_nil ?_
            refine t_on trivial ?_
            refine t_up1 8 (by kernel_rfl) ?_
            refine up_mk rfl ?_
            refine s_call rfl (rFlags A4 m _ d.pend _ (hr.pend.nilF.later H.only (by simp)) (by omega) hm) (ca112 rfl) ?_
            rintro e W1 ⟨A3', b3, c3', rfl, hb3, H'⟩
            refine ⟨_, rfl, ?_⟩
            obtain rfl := hb3 (by omega); have H := H.more H'; clear H'; simp only [List.cons_append, List.nil_append] at H
            refine k_nil ?_
            refine t_on trivial ?_
            refine t_up1 10 (by kernel_rfl) ?_
            refine up_mk rfl ?_
            refine s_st (u := .slice _ _ _) H 4 rfl rfl rfl rfl rfl rfl sz52 ?_
            intro _ H'; simp only [List.set_cons_zero, List.set_cons_succ, List.take_succ_cons, List.take_zero, List.drop_succ_cons, List.drop_zero, List.cons_append, List.nil_append, List.append_nil, List.length_cons, List.length_nil, Nat.reduceAdd] at H'; clear H; have H := H'; clear H'
            refine k_nil ?_
            refine t_on trivial ?_
            refine t_take 11 rfl (by kernel_rfl) (by kernel_rfl) (by kernel_rfl) rfl (fun _ _ _ _ h => nomatch h.1) rfl (fun _ hS => r_fa0 rfl fo55_3) trivial ?_
            refine t_up1 12 (by kernel_rfl) ?_
            refine up_mk rfl ?_
            refine s_st (u := .slice _ _ _) H 4 rfl rfl rfl rfl rfl rfl sz53 ?_
            intro _ H'; simp only [List.set_cons_zero, List.set_cons_succ, List.take_succ_cons, List.take_zero, List.drop_succ_cons, List.drop_zero, List.cons_append, List.nil_append, List.append_nil, List.length_cons, List.length_nil, Nat.reduceAdd] at H'; clear H; have H := H'; clear H'
            refine k_nil ?_
            refine t_on trivial ?_
            refine t_take 13 rfl (by kernel_rfl) (by kernel_rfl) (by kernel_rfl) rfl (fun _ _ _ _ h => nomatch h.1) rfl (fun _ hS => r_fa0 rfl fo55_4) trivial ?_
            refine t_up1 14 (by kernel_rfl) ?_
            refine up_mk rfl ?_
            refine s_st (u := .slice _ _ _) H 4 rfl rfl rfl rfl rfl rfl sz53 ?_
            intro _ H'; simp only [List.set_cons_zero, List.set_cons_succ, List.take_succ_cons, List.take_zero, List.drop_succ_cons, List.drop_zero, List.cons_append, List.nil_append, List.append_nil, List.length_cons, List.length_nil, Nat.reduceAdd] at H'; clear H; have H := H'; clear H'
            refine k_nil ?_
            refine t_on trivial ?_
            refine t_done (by kernel_rfl) ?_
            refine k_met ?_
            exact ⟨_, _, _, _, _, _, rfl, rfl, rfl, H⟩
      clear H
      rintro f' W ⟨b1, c1', b2, c2', b3, c3', h1, h2, h4, H⟩
      obtain ⟨f', rfl⟩ := live3 h1 h2 h4
      clear h1 h2 h4
      refine c_norm ?_
      refine k_seq ?_
      refine k_qt 9 mixed (by kernel_rfl) H rfl rfl ?_
      refine q_run rfl rfl (fun _ H => r_fa0 rfl fo55_1) ?_
      refine q_run rfl rfl (fun _ H => r_lo H 4 rfl rfl rfl ag52) ?_
      refine q_run rfl rfl (fun _ H => r_mv (v := .int _ _) rfl) ?_
      refine q_run rfl rfl (fun _ H => r_fa0 rfl fo55_0) ?_
      refine q_run rfl rfl (fun _ H => r_lo H 4 rfl rfl rfl ag52) ?_
      refine q_run rfl rfl (fun _ H => r_mv (v := .int _ _) rfl) ?_
      refine q_run rfl rfl (fun _ H => r_ix rfl rfl rfl (by omega) Try.underlying52 sz124) ?_
      refine q_run rfl rfl (fun _ H => r_lA (zs := Nv.part d.cache i) (hpart.later H.only (by simp)) rfl (Nv.length_part (by omega)) ag124 sz124) ?_
      refine q_run rfl rfl (fun _ H => r_ix0 rfl rfl rfl (by omega) Try.underlying52 sz124) ?_
      refine q_nil ?_
      intro _ H'; clear H; have H := H'; clear H'
      refine s_svA (zs := Nv.part d.cache i) H 2 rfl rfl rfl rfl (Nv.length_part (by omega)) (by omega) (fun _ => rfl) sz124 ?_
      intro _ H'; simp only [List.set_cons_zero, List.set_cons_succ, List.take_succ_cons, List.take_zero, List.drop_succ_cons, List.drop_zero, List.cons_append, List.nil_append, List.append_nil, List.length_cons, List.length_nil, Nat.reduceAdd] at H'; clear H; have H := H'; clear H'
      refine k_nil ?_
      refine c_norm ?_
      refine k_seq ?_
      refine k_trF mixed ?_; have H' := H.drew; clear H; have H := H'; clear H'
      refine t_take 0 rfl (by kernel_rfl) (by kernel_rfl) (by kernel_rfl) rfl (fun _ _ _ _ h => h) rfl (fun _ hS => r_fa0 rfl fo55_3) trivial ?_
      refine t_take 2 rfl (by kernel_rfl) (by kernel_rfl) (by kernel_rfl) rfl (fun _ _ _ _ h => h) rfl (fun _ hS => r_mv (v := .int _ _) rfl) trivial ?_
      refine t_take 3 rfl (by kernel_rfl) (by kernel_rfl) (by kernel_rfl) rfl (fun _ _ _ _ h => h) rfl (fun _ hS => r_fa0 rfl fo55_4) trivial ?_
      refine t_take 5 rfl (by kernel_rfl) (by kernel_rfl) (by kernel_rfl) rfl (fun _ _ _ _ h => h) rfl (fun _ hS => r_mv (v := .int _ _) rfl) trivial ?_
      refine t_up2 1 4 (by kernel_rfl) ?_ ?_
      · refine up_mk rfl ?_
        refine s_run rfl rfl (r_lo H 4 rfl rfl rfl ag53) ?_
        refine k_nil ?_
        refine t_on trivial ?_
        refine t_take 6 rfl (by kernel_rfl) (by kernel_rfl) (by kernel_rfl) rfl (fun _ _ _ _ h => h) rfl (fun _ hS => r_ix1 rfl rfl rfl (by omega) Try.underlying53 sz4) trivial ?_
        refine t_up2 4 7 (by kernel_rfl) ?_ ?_
        · refine up_mk rfl ?_
          refine s_run rfl rfl (r_lo H 4 rfl rfl rfl ag53) ?_
          refine k_nil ?_
          refine t_on trivial ?_
          refine t_up1 7 (by kernel_rfl) ?_
          refine up_mk rfl ?_
          refine s_sv (u := .bool _) H 1 rfl rfl rfl rfl rfl (by omega) (fun _ => rfl) sz4 ?_
          intro _ H'; simp only [List.set_cons_zero, List.set_cons_succ, List.take_succ_cons, List.take_zero, List.drop_succ_cons, List.drop_zero, List.cons_append, List.nil_append, List.append_nil, List.length_cons, List.length_nil, Nat.reduceAdd] at H'; clear H; have H := H'; clear H'
          refine k_nil ?_
          refine t_on trivial ?_
          refine t_take 8 rfl (by kernel_rfl) (by kernel_rfl) (by kernel_rfl) rfl (fun _ _ _ _ h => h) rfl (fun _ hS => r_ix1 rfl rfl rfl (by omega) Try.underlying53 sz4) trivial ?_
          refine t_up1 9 (by kernel_rfl) ?_
          refine up_mk rfl ?_
          refine s_sv (u := .bool _) H 0 rfl rfl rfl rfl rfl (by omega) (fun _ => rfl) sz4 ?_
          intro _ H'; simp only [List.set_cons_zero, List.set_cons_succ, List.take_succ_cons, List.take_zero, List.drop_succ_cons, List.drop_zero, List.cons_append, List.nil_append, List.append_nil, List.length_cons, List.length_nil, Nat.reduceAdd] at H'; clear H; have H := H'; clear H'
          refine k_nil ?_
          refine t_on trivial ?_
          refine t_done (by kernel_rfl) ?_
          refine c_norm ?_
          refine k_seq ?_
          refine k_rg ?_
          refine s_run rfl rfl (r_la H 4 rfl rfl rfl ag55 sz55) ?_
          refine s_sw H 3 rfl rfl rfl rfl rfl rfl rfl sz55 ?_
          intro _ H'; simp only [List.set_cons_zero, List.set_cons_succ, List.take_succ_cons, List.take_zero, List.drop_succ_cons, List.drop_zero, List.cons_append, List.nil_append, List.append_nil, List.length_cons, List.length_nil, Nat.reduceAdd] at H'; clear H; have H := H'; clear H'
          refine s_run rfl rfl (r_as (v := .int _ _) rfl) ?_
          refine k_nil ?_
          refine c_norm ?_
          refine k_ret ?_
          refine fx2r rfl (rv_a H 3 rfl rfl rfl ag55 sz55) (rv_t (v := .int _ _) rfl) ?_
          have e1 : i * 8 = 8 * i := by omega
          rw [e1] at H
          have e2 : Nv.setPart d.last i (Nv.part d.cache i) = d.last.take (8 * i) ++ (Nv.part d.cache i ++ d.last.drop (8 * i + 8)) := by simp [Nv.setPart]
          rw [← e2] at H
          refine ⟨⟨some ⟨bn, on, none⟩, c0, some ⟨b1, 0, none⟩, c1', A2, c2, some ⟨b2, 0, none⟩, c2', some ⟨b3, 0, none⟩, c3', rf0⟩, by simp only [refE, Nv.evicted, hs], H.clear, ⟨hr.now.later H.only (by simp), ?_, hr.wait.later H.only (by simp), ?_, ?_, hr.fuse, hok.evicted (by omega)⟩⟩
          · exact H.sees 2 rfl hF (m := 1) (fun _ => rfl) (fun _ => by simp)
          · exact H.sees 1 rfl hF (m := 1) (fun _ => rfl) (fun _ => by simp)
          · exact H.sees 0 rfl hF (m := 1) (fun _ => rfl) (fun _ => by simp)
        · refine up_mk rfl ?_
          refine s_sv (u := .bool _) H 1 rfl rfl rfl rfl rfl (by omega) (fun _ => rfl) sz4 ?_
          intro _ H'; simp only [List.set_cons_zero, List.set_cons_succ, List.take_succ_cons, List.take_zero, List.drop_succ_cons, List.drop_zero, List.cons_append, List.nil_append, List.append_nil, List.length_cons, List.length_nil, Nat.reduceAdd] at H'; clear H; have H := H'; clear H'
          refine k_nil ?_
          refine t_on trivial ?_
          refine t_up1 4 (by kernel_rfl) ?_
          refine up_mk rfl ?_
          refine s_run rfl rfl (r_lo H 4 rfl rfl rfl ag53) ?_
          refine k_nil ?_
          refine t_on trivial ?_
          refine t_take 8 rfl (by kernel_rfl) (by kernel_rfl) (by kernel_rfl) rfl (fun _ _ _ _ h => h) rfl (fun _ hS => r_ix1 rfl rfl rfl (by omega) Try.underlying53 sz4) trivial ?_
          refine t_up1 9 (by kernel_rfl) ?_
          refine up_mk rfl ?_
          refine s_sv (u := .bool _) H 0 rfl rfl rfl rfl rfl (by omega) (fun _ => rfl) sz4 ?_
          intro _ H'; simp only [List.set_cons_zero, List.set_cons_succ, List.take_succ_cons, List.take_zero, List.drop_succ_cons, List.drop_zero, List.cons_append, List.nil_append, List.append_nil, List.length_cons, List.length_nil, Nat.reduceAdd] at H'; clear H; have H := H'; clear H'
          refine k_nil ?_
          refine t_on trivial ?_
          refine t_done (by kernel_rfl) ?_
          refine c_norm ?_
          refine k_seq ?_
          refine k_rg ?_
          refine s_run rfl rfl (r_la H 4 rfl rfl rfl ag55 sz55) ?_
          refine s_sw H 3 rfl rfl rfl rfl rfl rfl rfl sz55 ?_
          intro _ H'; simp only [List.set_cons_zero, List.set_cons_succ, List.take_succ_cons, List.take_zero, List.drop_succ_cons, List.drop_zero, List.cons_append, List.nil_append, List.append_nil, List.length_cons, List.length_nil, Nat.reduceAdd] at H'; clear H; have H := H'; clear H'
          refine s_run rfl rfl (r_as (v := .int _ _) rfl) ?_
          refine k_nil ?_
          refine c_norm ?_
          refine k_ret ?_
          refine fx2r rfl (rv_a H 3 rfl rfl rfl ag55 sz55) (rv_t (v := .int _ _) rfl) ?_
          have e1 : i * 8 = 8 * i := by omega
          rw [e1] at H
          have e2 : Nv.setPart d.last i (Nv.part d.cache i) = d.last.take (8 * i) ++ (Nv.part d.cache i ++ d.last.drop (8 * i + 8)) := by simp [Nv.setPart]
          rw [← e2] at H
          refine ⟨⟨some ⟨bn, on, none⟩, c0, some ⟨b1, 0, none⟩, c1', A2, c2, some ⟨b2, 0, none⟩, c2', some ⟨b3, 0, none⟩, c3', rf0⟩, by simp only [refE, Nv.evicted, hs], H.clear, ⟨hr.now.later H.only (by simp), ?_, hr.wait.later H.only (by simp), ?_, ?_, hr.fuse, hok.evicted (by omega)⟩⟩
          · exact H.sees 2 rfl hF (m := 1) (fun _ => rfl) (fun _ => by simp)
          · exact H.sees 1 rfl hF (m := 1) (fun _ => rfl) (fun _ => by simp)
          · exact H.sees 0 rfl hF (m := 1) (fun _ => rfl) (fun _ => by simp)
      · refine up_mk rfl ?_
        refine s_run rfl rfl (r_lo H 4 rfl rfl rfl ag53) ?_
        refine k_nil ?_
        refine t_on trivial ?_
        refine t_up1 1 (by kernel_rfl) ?_
        refine up_mk rfl ?_
        refine s_run rfl rfl (r_lo H 4 rfl rfl rfl ag53) ?_
        refine k_nil ?_
        refine t_on trivial ?_
        refine t_take 6 rfl (by kernel_rfl) (by kernel_rfl) (by kernel_rfl) rfl (fun _ _ _ _ h => h) rfl (fun _ hS => r_ix1 rfl rfl rfl (by omega) Try.underlying53 sz4) trivial ?_
        refine t_up1 7 (by kernel_rfl) ?_
        refine up_mk rfl ?_
        refine s_sv (u := .bool _) H 1 rfl rfl rfl rfl rfl (by omega) (fun _ => rfl) sz4 ?_
        intro _ H'; simp only [List.set_cons_zero, List.set_cons_succ, List.take_succ_cons, List.take_zero, List.drop_succ_cons, List.drop_zero, List.cons_append, List.nil_append, List.append_nil, List.length_cons, List.length_nil, Nat.reduceAdd] at H'; clear H; have H := H'; clear H'
        refine k_nil ?_
        refine t_on trivial ?_
        refine t_take 8 rfl (by kernel_rfl) (by kernel_rfl) (by kernel_rfl) rfl (fun _ _ _ _ h => h) rfl (fun _ hS => r_ix1 rfl rfl rfl (by omega) Try.underlying53 sz4) trivial ?_
        refine t_up1 9 (by kernel_rfl) ?_
        refine up_mk rfl ?_
        refine s_sv (u := .bool _) H 0 rfl rfl rfl rfl rfl (by omega) (fun _ => rfl) sz4 ?_
        intro _ H'; simp only [List.set_cons_zero, List.set_cons_succ, List.take_succ_cons, List.take_zero, List.drop_succ_cons, List.drop_zero, List.cons_append, List.nil_append, List.append_nil, List.length_cons, List.length_nil, Nat.reduceAdd] at H'; clear H; have H := H'; clear H'
        refine k_nil ?_
        refine t_on trivial ?_
        refine t_done (by kernel_rfl) ?_
        refine c_norm ?_
        refine k_seq ?_
        refine k_rg ?_
        refine s_run rfl rfl (r_la H 4 rfl rfl rfl ag55 sz55) ?_
        refine s_sw H 3 rfl rfl rfl rfl rfl rfl rfl sz55 ?_
        intro _ H'; simp only [List.set_cons_zero, List.set_cons_succ, List.take_succ_cons, List.take_zero, List.drop_succ_cons, List.drop_zero, List.cons_append, List.nil_append, List.append_nil, List.length_cons, List.length_nil, Nat.reduceAdd] at H'; clear H; have H := H'; clear H'
        refine s_run rfl rfl (r_as (v := .int _ _) rfl) ?_
        refine k_nil ?_
        refine c_norm ?_
        refine k_ret ?_
        refine fx2r rfl (rv_a H 3 rfl rfl rfl ag55 sz55) (rv_t (v := .int _ _) rfl) ?_
        have e1 : i * 8 = 8 * i := by omega
        rw [e1] at H
        have e2 : Nv.setPart d.last i (Nv.part d.cache i) = d.last.take (8 * i) ++ (Nv.part d.cache i ++ d.last.drop (8 * i + 8)) := by simp [Nv.setPart]
        rw [← e2] at H
        refine ⟨⟨some ⟨bn, on, none⟩, c0, some ⟨b1, 0, none⟩, c1', A2, c2, some ⟨b2, 0, none⟩, c2', some ⟨b3, 0, none⟩, c3', rf0⟩, by simp only [refE, Nv.evicted, hs], H.clear, ⟨hr.now.later H.only (by simp), ?_, hr.wait.later H.only (by simp), ?_, ?_, hr.fuse, hok.evicted (by omega)⟩⟩
        · exact H.sees 2 rfl hF (m := 1) (fun _ => rfl) (fun _ => by simp)
        · exact H.sees 1 rfl hF (m := 1) (fun _ => rfl) (fun _ => by simp)
        · exact H.sees 0 rfl hF (m := 1) (fun _ => rfl) (fun _ => by simp)
  · have er : Nv.evict d m a = (d, 2) := by rw [Nv.evict, if_neg hin]
    rw [er, refE]
    by_cases h1 : a < 0
    · refine k_in (N := 49) Try.func74 rfl rfl rfl ?_
      refine k_seq ?_
      refine k_rg ?_
      refine s_box H rfl rfl ?_
      intro p2 _ H'; clear H; have H := H'; clear H'
      refine s_al H rfl inf55 ?_
      intro p4 _ H'; clear H; have H := H'; clear H'
      refine s_run rfl rfl (r_as (v := .int _ _) rfl) ?_
      refine k_nil ?_
      refine c_norm ?_
      refine k_seq ?_
      refine k_seq ?_
      refine k_rg ?_
      refine s_run rfl rfl (r_mv (v := .int _ _) rfl) ?_
      refine s_run rfl rfl (r_lssT rfl rfl (by omega)) ?_
      refine s_run rfl rfl (r_mv (v := .bool _) rfl) ?_
      refine s_off rfl (g_off 8 (by kernel_rfl) rfl rfl) ?_
      refine s_off rfl (g_off 8 (by kernel_rfl) rfl rfl) ?_
      refine s_off rfl (g_off 8 (by kernel_rfl) rfl rfl) ?_
      refine s_off rfl (g_off 8 (by kernel_rfl) rfl rfl) ?_
      refine s_off rfl (g_off 8 (by kernel_rfl) rfl rfl) ?_
      refine s_run rfl rfl (r_pkT (v := .bool _) rfl rfl) ?_
      refine k_nil ?_
      refine c_norm ?_
      refine k_t rfl ?_
      refine k_seq ?_
      refine k_rg ?_
      refine s_run rfl rfl (r_la H 1 rfl rfl rfl ag55 sz55) ?_
      refine s_sw H 0 rfl rfl rfl rfl rfl rfl rfl sz55 ?_
      intro _ H'; simp only [List.set_cons_zero, List.set_cons_succ, List.take_succ_cons, List.take_zero, List.drop_succ_cons, List.drop_zero, List.cons_append, List.nil_append, List.append_nil, List.length_cons, List.length_nil, Nat.reduceAdd] at H'; clear H; have H := H'; clear H'
      refine s_run rfl rfl (r_as (v := .int _ _) rfl) ?_
      refine k_nil ?_
      refine c_norm ?_
      refine k_ret ?_
      refine c_ret ?_
      refine fx2r rfl (rv_a H 0 rfl rfl rfl ag55 sz55) (rv_t (v := .int _ _) rfl) ?_
      exact ⟨_, rfl, H.clear, hr.later H.only (by simp)⟩
    · refine k_in (N := 49) Try.func74 rfl rfl rfl ?_
      refine k_seq ?_
      refine k_rg ?_
      refine s_box H rfl rfl ?_
      intro p2 _ H'; clear H; have H := H'; clear H'
      refine s_al H rfl inf55 ?_
      intro p4 _ H'; clear H; have H := H'; clear H'
      refine s_run rfl rfl (r_as (v := .int _ _) rfl) ?_
      refine k_nil ?_
      refine c_norm ?_
      refine k_seq ?_
      refine k_seq ?_
      refine k_rg ?_
      refine s_run rfl rfl (r_mv (v := .int _ _) rfl) ?_
      refine s_run rfl rfl (r_lssF rfl rfl (by omega)) ?_
      refine s_run rfl rfl (r_mv (v := .bool _) rfl) ?_
      refine s_run rfl (g_on 8 (by kernel_rfl) rfl) (r_mv (v := .int _ _) rfl) ?_
      refine s_run rfl (g_on 8 (by kernel_rfl) rfl) (r_fa0 rfl fo55_0) ?_
      refine s_run rfl (g_on 8 (by kernel_rfl) rfl) (r_lo H 1 rfl rfl rfl ag52) ?_
      refine s_run rfl (g_on 8 (by kernel_rfl) rfl) (r_len rfl Try.underlying52) ?_
      refine s_run rfl (g_on 8 (by kernel_rfl) rfl) (r_geqT rfl rfl (by omega)) ?_
      refine s_run rfl rfl (r_pkF (v := .bool _) rfl rfl) ?_
      refine k_nil ?_
      refine c_norm ?_
      refine k_t rfl ?_
      refine k_seq ?_
      refine k_rg ?_
      refine s_run rfl rfl (r_la H 1 rfl rfl rfl ag55 sz55) ?_
      refine s_sw H 0 rfl rfl rfl rfl rfl rfl rfl sz55 ?_
      intro _ H'; simp only [List.set_cons_zero, List.set_cons_succ, List.take_succ_cons, List.take_zero, List.drop_succ_cons, List.drop_zero, List.cons_append, List.nil_append, List.append_nil, List.length_cons, List.length_nil, Nat.reduceAdd] at H'; clear H; have H := H'; clear H'
      refine s_run rfl rfl (r_as (v := .int _ _) rfl) ?_
      refine k_nil ?_
      refine c_norm ?_
      refine k_ret ?_
      refine c_ret ?_
      refine fx2r rfl (rv_a H 0 rfl rfl rfl ag55 sz55) (rv_t (v := .int _ _) rfl) ?_
      exact ⟨_, rfl, H.clear, hr.later H.only (by simp)⟩
end Go.Proofs.Ytmekhdclnhhhbaa
