/- The document's Fence. -/
import Derived.Test.YtmekhdclnhhhbaaRef4
namespace Go.Proofs.Ytmekhdclnhhhbaa
open Go.RowKit
set_option linter.unusedSimpArgs false
set_option linter.unusedVariables false
theorem rFence (s : RefS) (d : Nv.D) (m : Nat) (F : List Nat) (w : World) (hr : RefOk w F s d m) (hF : ∀ i ∈ F, i < w.heap.size) (hm : m ≤ 100000) :
    Calls Try.prog 73 [.agg (refCells s d m).toArray].toArray w fun e w' => ∃ s', e = .returned (.tuple #[.agg (refCells s' (Nv.fence d m).1 m).toArray, .int .i64 (Nv.fence d m).2]) ∧ Heap w [] [] w' ∧ RefOk w' F s' (Nv.fence d m).1 m := by
  have H := Heap.nil w
  obtain ⟨A0, c0, A1, c1, A2, c2, A3, c3, A4, c4, rf0⟩ := s
  have hok := hr.ok
  have hS := rStep ⟨A0, c0, A1, c1, A2, c2, A3, c3, A4, c4, rf0⟩ d m
  by_cases hs : Nv.stops d = true
  · have er : Nv.fence d m = (Nv.killed d, 3) := by rw [Nv.fence, if_pos hs]
    rw [er]
    simp only [hs, if_true, Bool.not_true] at hS
    rw [refE]
    refine k_in (N := 95) Try.func73 rfl rfl rfl ?_
    refine k_seq ?_
    refine k_rg ?_
    refine s_box H rfl rfl ?_
    intro p1 _ H'; clear H; have H := H'; clear H'
    refine s_al H rfl inf55 ?_
    intro p2 _ H'; clear H; have H := H'; clear H'
    refine s_run rfl rfl (r_as (v := .int _ _) rfl) ?_
    refine k_nil ?_
    refine c_norm ?_
    refine k_seq ?_
    refine k_rg ?_
    refine s_run rfl rfl (r_la H 1 rfl rfl rfl ag55 sz55) ?_
    refine s_call rfl (hS _ hr.fuse) (ca110 rfl) ?_
    rintro e W1 ⟨rf, rfl, H', hf'⟩
    refine ⟨_, rfl, ?_⟩
    have H := H.same H'; clear H'; simp only [refE]
    refine s_run rfl rfl (r_mv (v := .tuple _) rfl) ?_
    refine s_run rfl rfl (r_ext (v := .agg _) rfl rfl) ?_
    refine s_run rfl rfl (r_ext (v := .bool _) rfl rfl) ?_
    refine s_sw H 1 rfl rfl rfl rfl rfl rfl rfl sz55 ?_
    intro _ H'; simp only [List.set_cons_zero, List.set_cons_succ, List.take_succ_cons, List.take_zero, List.drop_succ_cons, List.drop_zero, List.cons_append, List.nil_append, List.append_nil, List.length_cons, List.length_nil, Nat.reduceAdd] at H'; clear H; have H := H'; clear H'
    refine s_run rfl rfl (r_as (v := .bool _) rfl) ?_
    refine k_nil ?_
    refine c_norm ?_
    refine k_seq ?_
    refine k_seq ?_
    refine k_rg ?_
    refine s_run rfl rfl (r_mv (v := .bool _) rfl) ?_
    refine s_run rfl rfl (r_notF rfl) ?_
    refine k_nil ?_
    refine c_norm ?_
    refine k_t rfl ?_
    refine k_seq ?_
    refine k_rg ?_
    refine s_run rfl rfl (r_la H 1 rfl rfl rfl ag55 sz55) ?_
    refine s_sw H 0 rfl rfl rfl rfl rfl rfl rfl sz55 ?_
    intro _ H'; simp only [List.set_cons_zero, List.set_cons_succ, List.take_succ_cons, List.take_zero, List.drop_succ_cons, List.drop_zero, List.cons_append, List.nil_append, List.append_nil, List.length_cons, List.length_nil, Nat.reduceAdd] at H'; clear H; have H := H'; clear H'
    refine s_run rfl rfl (r_as (v := .int _ _) rfl) ?_
    refine k_nil ?_
    refine c_norm ?_
    refine k_ret ?_
    refine c_ret ?_
    refine fx2r rfl (rv_a H 0 rfl rfl rfl ag55 sz55) (rv_t (v := .int _ _) rfl) ?_
    exact ⟨⟨A0, c0, A1, c1, A2, c2, A3, c3, A4, c4, rf⟩, rfl, H.clear, ⟨hr.now.later H.only (by simp), hr.last.later H.only (by simp), hr.wait.later H.only (by simp), hr.dirty.later H.only (by simp), hr.pend.later H.only (by simp), hf', hok.killed⟩⟩
  have hs : Nv.stops d = false := by simpa using hs
  have er : Nv.fence d m = (Nv.fenceTo (Nv.stepped d) m, 0) := by rw [Nv.fence, if_neg (by simp [hs])]
  rw [er]
  simp only [hs, Bool.false_eq_true, if_false, Bool.not_false] at hS
  have ho1 := hok.stepped
  rw [refE]
  simp only
  refine k_in (N := 95) Try.func73 rfl rfl rfl ?_
  refine k_seq ?_
  refine k_rg ?_
  refine s_box H rfl rfl ?_
  intro p1 _ H'; clear H; have H := H'; clear H'
  refine s_al H rfl inf55 ?_
  intro p2 _ H'; clear H; have H := H'; clear H'
  refine s_run rfl rfl (r_as (v := .int _ _) rfl) ?_
  refine k_nil ?_
  refine c_norm ?_
  refine k_seq ?_
  refine k_rg ?_
  refine s_run rfl rfl (r_la H 1 rfl rfl rfl ag55 sz55) ?_
  refine s_call rfl (hS _ hr.fuse) (ca110 rfl) ?_
  rintro e W1 ⟨rf, rfl, H', hf'⟩
  refine ⟨_, rfl, ?_⟩
  have H := H.same H'; clear H'; simp only [refE]
  refine s_run rfl rfl (r_mv (v := .tuple _) rfl) ?_
  refine s_run rfl rfl (r_ext (v := .agg _) rfl rfl) ?_
  refine s_run rfl rfl (r_ext (v := .bool _) rfl rfl) ?_
  refine s_sw H 1 rfl rfl rfl rfl rfl rfl rfl sz55 ?_
  intro _ H'; simp only [List.set_cons_zero, List.set_cons_succ, List.take_succ_cons, List.take_zero, List.drop_succ_cons, List.drop_zero, List.cons_append, List.nil_append, List.append_nil, List.length_cons, List.length_nil, Nat.reduceAdd] at H'; clear H; have H := H'; clear H'
  refine s_run rfl rfl (r_as (v := .bool _) rfl) ?_
  refine k_nil ?_
  refine c_norm ?_
  refine k_seq ?_
  refine k_seq ?_
  refine k_rg ?_
  refine s_run rfl rfl (r_mv (v := .bool _) rfl) ?_
  refine s_run rfl rfl (r_notT rfl) ?_
  refine k_nil ?_
  refine c_norm ?_
  refine k_f rfl ?_
  refine k_skip ?_
  refine c_norm ?_
  refine k_seq ?_
  refine k_cut (fun f' W' => ∃ B1 b1 c1' B2 b2 c2' B3 b3 c3', (m ≠ 0 → B1 = some ⟨b1, 0, none⟩) ∧ (m ≠ 0 → B2 = some ⟨b2, 0, none⟩) ∧ (m ≠ 0 → B3 = some ⟨b3, 0, none⟩) ∧ f' 1 = ptr p1 ∧ f' 2 = ptr p2 ∧ Heap w [] [vec Value.bool b3 d.pend 4, vec Value.bool b2 d.dirty 4, vec (Value.int .u64) b1 d.last 124, blk p2 [.slice none 0 0, .slice none 0 0, .slice none 0 0, .slice none 0 0, .slice none 0 0, .int .i64 0, .int .i64 0, .bool false] 55, blk p1 [.slice A0 m c0, .slice B1 m c1', .slice A2 m c2, .slice B2 m c2', .slice B3 m c3', .int .i64 (Nv.stepped d).steps, .int .i64 rf, .bool (Nv.stepped d).dead] 55] W') ?_ ?_
  · refine k_trF mixed ?_; have H' := H.drew; clear H; have H := H'; clear H'
    refine t_take 0 rfl (by kernel_rfl) (by kernel_rfl) (by kernel_rfl) rfl (fun _ _ _ _ h => nomatch h.1) rfl (fun _ hS => r_fa0 rfl fo55_1) trivial ?_
    refine t_take 3 rfl (by kernel_rfl) (by kernel_rfl) (by kernel_rfl) rfl (fun _ _ _ _ h => nomatch h.1) rfl (fun _ hS => r_fa0 rfl fo55_3) trivial ?_
    refine t_take 6 rfl (by kernel_rfl) (by kernel_rfl) (by kernel_rfl) rfl (fun _ _ _ _ h => nomatch h.1) rfl (fun _ hS => r_fa0 rfl fo55_4) trivial ?_
    refine t_up3 1 4 7 (by kernel_rfl) ?_ ?_ ?_
    · refine up_mk rfl ?_
      refine s_run rfl rfl (r_lo H 1 rfl rfl rfl ag52) ?_
      refine k_nil ?_
      refine t_on trivial ?_
      refine t_up3 2 4 7 (by kernel_rfl) ?_ ?_ ?_
      · refine up_mk rfl ?_
        refine s_call rfl (rLines A1 m _ d.last _ (hr.last.nilF.later H.only (by simp)) (by have := hok.hl; omega) hm) (ca111 rfl) ?_
        rintro e W1 ⟨B1, b1, c1', rfl, hb1, H'⟩
        refine ⟨_, rfl, ?_⟩
        have H := H.more H'; clear H'; simp only [List.cons_append, List.nil_append] at H
        refine k_nil ?_
        refine t_on trivial ?_
        refine t_up2 4 7 (by kernel_rfl) ?_ ?_
        · refine up_mk rfl ?_
          refine s_run rfl rfl (r_lo H 2 rfl rfl rfl ag53) ?_
          refine k_nil ?_
          refine t_on trivial ?_
          refine t_up2 5 7 (by kernel_rfl) ?_ ?_
          · refine up_mk rfl ?_
            refine s_call rfl (rFlags A3 m _ d.dirty _ (hr.dirty.nilF.later H.only (by simp)) (by have := hok.hd; omega) hm) (ca112 rfl) ?_
            rintro e W1 ⟨B2, b2, c2', rfl, hb2, H'⟩
            refine ⟨_, rfl, ?_⟩
            have H := H.more H'; clear H'; simp only [List.cons_append, List.nil_append] at H
            refine k_nil ?_
            refine t_on trivial ?_
            refine t_up1 7 (by kernel_rfl) ?_
            refine up_mk rfl ?_
            refine s_run rfl rfl (r_lo H 3 rfl rfl rfl ag53) ?_
            refine k_nil ?_
            refine t_on trivial ?_
            refine t_take 9 rfl (by kernel_rfl) (by kernel_rfl) (by kernel_rfl) rfl (fun _ _ _ _ h => nomatch h.1) rfl (fun _ hS => r_fa0 rfl fo55_1) trivial ?_
            refine t_up1 8 (by kernel_rfl) ?_
            refine up_mk rfl ?_
            refine s_call rfl (rFlags A4 m _ d.pend _ (hr.pend.nilF.later H.only (by simp)) (by have := hok.hp; omega) hm) (ca112 rfl) ?_
            rintro e W1 ⟨B3, b3, c3', rfl, hb3, H'⟩
            refine ⟨_, rfl, ?_⟩
            have H := H.more H'; clear H'; simp only [List.cons_append, List.nil_append] at H
            refine k_nil ?_
            refine t_on trivial ?_
            refine t_up1 10 (by kernel_rfl) ?_
            refine up_mk rfl ?_
            refine s_st (u := .slice _ _ _) H 4 rfl rfl rfl rfl rfl rfl sz52 ?_
            intro _ H'; simp only [List.set_cons_zero, List.set_cons_succ, List.take_succ_cons, List.take_zero, List.drop_succ_cons, List.drop_zero, List.cons_append, List.nil_append, List.append_nil, List.length_cons, List.length_nil, Nat.reduceAdd] at H'; clear H; have H := H'; clear H'
            refine k_nil ?_
            refine t_on trivial ?_
            refine t_take 11 rfl (by kernel_rfl) (by kernel_rfl) (by kernel_rfl) rfl (fun _ _ _ _ h => nomatch h.1) rfl (fun _ hS => r_fa0 rfl fo55_3) trivial ?_
            refine t_up1 12 (by kernel_rfl) ?_
            refine up_mk rfl ?_
            refine s_st (u := .slice _ _ _) H 4 rfl rfl rfl rfl rfl rfl sz53 ?_
            intro _ H'; simp only [List.set_cons_zero, List.set_cons_succ, List.take_succ_cons, List.take_zero, List.drop_succ_cons, List.drop_zero, List.cons_append, List.nil_append, List.append_nil, List.length_cons, List.length_nil, Nat.reduceAdd] at H'; clear H; have H := H'; clear H'
            refine k_nil ?_
            refine t_on trivial ?_
            refine t_take 13 rfl (by kernel_rfl) (by kernel_rfl) (by kernel_rfl) rfl (fun _ _ _ _ h => nomatch h.1) rfl (fun _ hS => r_fa0 rfl fo55_4) trivial ?_
            refine t_up1 14 (by kernel_rfl) ?_
            refine up_mk rfl ?_
            refine s_st (u := .slice _ _ _) H 4 rfl rfl rfl rfl rfl rfl sz53 ?_
            intro _ H'; simp only [List.set_cons_zero, List.set_cons_succ, List.take_succ_cons, List.take_zero, List.drop_succ_cons, List.drop_zero, List.cons_append, List.nil_append, List.append_nil, List.length_cons, List.length_nil, Nat.reduceAdd] at H'; clear H; have H := H'; clear H'
            refine k_nil ?_
            refine t_on trivial ?_
            refine t_done (by kernel_rfl) ?_
            refine k_met ?_
            exact ⟨_, _, _, _, _, _, _, _, _, hb1, hb2, hb3, rfl, rfl, H⟩
          · refine up_mk rfl ?_
            refine s_run rfl rfl (r_lo H 2 rfl rfl rfl ag53) ?_
            refine k_nil ?_
            refine t_on trivial ?_
            refine t_take 9 rfl (by kernel_rfl) (by kernel_rfl) (by kernel_rfl) rfl (fun _ _ _ _ h => nomatch h.1) rfl (fun _ hS => r_fa0 rfl fo55_1) trivial ?_
            refine t_up1 5 (by kernel_rfl) ?_
            refine up_mk rfl ?_
            refine s_call rfl (rFlags A3 m _ d.dirty _ (hr.dirty.nilF.later H.only (by simp)) (by have := hok.hd; omega) hm) (ca112 rfl) ?_
            rintro e W1 ⟨B2, b2, c2', rfl, hb2, H'⟩
            refine ⟨_, rfl, ?_⟩
            have H := H.more H'; clear H'; simp only [List.cons_append, List.nil_append] at H
            refine k_nil ?_
            refine t_on trivial ?_
            refine t_up1 8 (by kernel_rfl) ?_
            refine up_mk rfl ?_
            refine s_call rfl (rFlags A4 m _ d.pend _ (hr.pend.nilF.later H.only (by simp)) (by have := hok.hp; omega) hm) (ca112 rfl) ?_
            rintro e W1 ⟨B3, b3, c3', rfl, hb3, H'⟩
            refine ⟨_, rfl, ?_⟩
            have H := H.more H'; clear H'; simp only [List.cons_append, List.nil_append] at H
            refine k_nil ?_
            refine t_on trivial ?_
            refine t_up1 10 (by kernel_rfl) ?_
            refine up_mk rfl ?_
            refine s_st (u := .slice _ _ _) H 4 rfl rfl rfl rfl rfl rfl sz52 ?_
            intro _ H'; simp only [List.set_cons_zero, List.set_cons_succ, List.take_succ_cons, List.take_zero, List.drop_succ_cons, List.drop_zero, List.cons_append, List.nil_append, List.append_nil, List.length_cons, List.length_nil, Nat.reduceAdd] at H'; clear H; have H := H'; clear H'
            refine k_nil ?_
            refine t_on trivial ?_
            refine t_take 11 rfl (by kernel_rfl) (by kernel_rfl) (by kernel_rfl) rfl (fun _ _ _ _ h => nomatch h.1) rfl (fun _ hS => r_fa0 rfl fo55_3) trivial ?_
            refine t_up1 12 (by kernel_rfl) ?_
            refine up_mk rfl ?_
            refine s_st (u := .slice _ _ _) H 4 rfl rfl rfl rfl rfl rfl sz53 ?_
            intro _ H'; simp only [List.set_cons_zero, List.set_cons_succ, List.take_succ_cons, List.take_zero, List.drop_succ_cons, List.drop_zero, List.cons_append, List.nil_append, List.append_nil, List.length_cons, List.length_nil, Nat.reduceAdd] at H'; clear H; have H := H'; clear H'
            refine k_nil ?_
            refine t_on trivial ?_
            refine t_take 13 rfl (by kernel_rfl) (by kernel_rfl) (by kernel_rfl) rfl (fun _ _ _ _ h => nomatch h.1) rfl (fun _ hS => r_fa0 rfl fo55_4) trivial ?_
            refine t_up1 14 (by kernel_rfl) ?_
            refine up_mk rfl ?_
            refine s_st (u := .slice _ _ _) H 4 rfl rfl rfl rfl rfl rfl sz53 ?_
            intro _ H'; simp only [List.set_cons_zero, List.set_cons_succ, List.take_succ_cons, List.take_zero, List.drop_succ_cons, List.drop_zero, List.cons_append, List.nil_append, List.append_nil, List.length_cons, List.length_nil, Nat.reduceAdd] at H'; clear H; have H := H'; clear H'
            refine k_nil ?_
            refine t_on trivial ?_
            refine t_done (by kernel_rfl) ?_
            refine k_met ?_
            exact ⟨_, _, _, _, _, _, _, _, _, hb1, hb2, hb3, rfl, rfl, H⟩
        · refine up_mk rfl ?_
          refine s_run rfl rfl (r_lo H 2 rfl rfl rfl ag53) ?_
          refine k_nil ?_
          refine t_on trivial ?_
          refine t_up1 4 (by kernel_rfl) ?_
          refine up_mk rfl ?_
          refine s_run rfl rfl (r_lo H 2 rfl rfl rfl ag53) ?_
          refine k_nil ?_
          refine t_on trivial ?_
          refine t_take 9 rfl (by kernel_rfl) (by kernel_rfl) (by kernel_rfl) rfl (fun _ _ _ _ h => nomatch h.1) rfl (fun _ hS => r_fa0 rfl fo55_1) trivial ?_
          refine t_up1 5 (by kernel_rfl) ?_
          refine up_mk rfl ?_
          refine s_call rfl (rFlags A3 m _ d.dirty _ (hr.dirty.nilF.later H.only (by simp)) (by have := hok.hd; omega) hm) (ca112 rfl) ?_
          rintro e W1 ⟨B2, b2, c2', rfl, hb2, H'⟩
          refine ⟨_, rfl, ?_⟩
          have H := H.more H'; clear H'; simp only [List.cons_append, List.nil_append] at H
          refine k_nil ?_
          refine t_on trivial ?_
          refine t_up1 8 (by kernel_rfl) ?_
          refine up_mk rfl ?_
          refine s_call rfl (rFlags A4 m _ d.pend _ (hr.pend.nilF.later H.only (by simp)) (by have := hok.hp; omega) hm) (ca112 rfl) ?_
          rintro e W1 ⟨B3, b3, c3', rfl, hb3, H'⟩
          refine ⟨_, rfl, ?_⟩
          have H := H.more H'; clear H'; simp only [List.cons_append, List.nil_append] at H
          refine k_nil ?_
          refine t_on trivial ?_
          refine t_up1 10 (by kernel_rfl) ?_
          refine up_mk rfl ?_
          refine s_st (u := .slice _ _ _) H 4 rfl rfl rfl rfl rfl rfl sz52 ?_
          intro _ H'; simp only [List.set_cons_zero, List.set_cons_succ, List.take_succ_cons, List.take_zero, List.drop_succ_cons, List.drop_zero, List.cons_append, List.nil_append, List.append_nil, List.length_cons, List.length_nil, Nat.reduceAdd] at H'; clear H; have H := H'; clear H'
          refine k_nil ?_
          refine t_on trivial ?_
          refine t_take 11 rfl (by kernel_rfl) (by kernel_rfl) (by kernel_rfl) rfl (fun _ _ _ _ h => nomatch h.1) rfl (fun _ hS => r_fa0 rfl fo55_3) trivial ?_
          refine t_up1 12 (by kernel_rfl) ?_
          refine up_mk rfl ?_
          refine s_st (u := .slice _ _ _) H 4 rfl rfl rfl rfl rfl rfl sz53 ?_
          intro _ H'; simp only [List.set_cons_zero, List.set_cons_succ, List.take_succ_cons, List.take_zero, List.drop_succ_cons, List.drop_zero, List.cons_append, List.nil_append, List.append_nil, List.length_cons, List.length_nil, Nat.reduceAdd] at H'; clear H; have H := H'; clear H'
          refine k_nil ?_
          refine t_on trivial ?_
          refine t_take 13 rfl (by kernel_rfl) (by kernel_rfl) (by kernel_rfl) rfl (fun _ _ _ _ h => nomatch h.1) rfl (fun _ hS => r_fa0 rfl fo55_4) trivial ?_
          refine t_up1 14 (by kernel_rfl) ?_
          refine up_mk rfl ?_
          refine s_st (u := .slice _ _ _) H 4 rfl rfl rfl rfl rfl rfl sz53 ?_
          intro _ H'; simp only [List.set_cons_zero, List.set_cons_succ, List.take_succ_cons, List.take_zero, List.drop_succ_cons, List.drop_zero, List.cons_append, List.nil_append, List.append_nil, List.length_cons, List.length_nil, Nat.reduceAdd] at H'; clear H; have H := H'; clear H'
          refine k_nil ?_
          refine t_on trivial ?_
          refine t_done (by kernel_rfl) ?_
          refine k_met ?_
          exact ⟨_, _, _, _, _, _, _, _, _, hb1, hb2, hb3, rfl, rfl, H⟩
      · refine up_mk rfl ?_
        refine s_run rfl rfl (r_lo H 1 rfl rfl rfl ag53) ?_
        refine k_nil ?_
        refine t_on trivial ?_
        refine t_up2 2 7 (by kernel_rfl) ?_ ?_
        · refine up_mk rfl ?_
          refine s_call rfl (rLines A1 m _ d.last _ (hr.last.nilF.later H.only (by simp)) (by have := hok.hl; omega) hm) (ca111 rfl) ?_
          rintro e W1 ⟨B1, b1, c1', rfl, hb1, H'⟩
          refine ⟨_, rfl, ?_⟩
          have H := H.more H'; clear H'; simp only [List.cons_append, List.nil_append] at H
          refine k_nil ?_
          refine t_on trivial ?_
          refine t_up2 5 7 (by kernel_rfl) ?_ ?_
          · refine up_mk rfl ?_
            refine s_call rfl (rFlags A3 m _ d.dirty _ (hr.dirty.nilF.later H.only (by simp)) (by have := hok.hd; omega) hm) (ca112 rfl) ?_
            rintro e W1 ⟨B2, b2, c2', rfl, hb2, H'⟩
            refine ⟨_, rfl, ?_⟩
            have H := H.more H'; clear H'; simp only [List.cons_append, List.nil_append] at H
            refine k_nil ?_
            refine t_on trivial ?_
            refine t_up1 7 (by kernel_rfl) ?_
            refine up_mk rfl ?_
            refine s_run rfl rfl (r_lo H 3 rfl rfl rfl ag53) ?_
            refine k_nil ?_
            refine t_on trivial ?_
            refine t_take 9 rfl (by kernel_rfl) (by kernel_rfl) (by kernel_rfl) rfl (fun _ _ _ _ h => nomatch h.1) rfl (fun _ hS => r_fa0 rfl fo55_1) trivial ?_
            refine t_up1 8 (by kernel_rfl) ?_
            refine up_mk rfl ?_
            refine s_call rfl (rFlags A4 m _ d.pend _ (hr.pend.nilF.later H.only (by simp)) (by have := hok.hp; omega) hm) (ca112 rfl) ?_
            rintro e W1 ⟨B3, b3, c3', rfl, hb3, H'⟩
            refine ⟨_, rfl, ?_⟩
            have H := H.more H'; clear H'; simp only [List.cons_append, List.nil_append] at H
            refine k_nil ?_
            refine t_on trivial ?_
            refine t_up1 10 (by kernel_rfl) ?_
            refine up_mk rfl ?_
            refine s_st (u := .slice _ _ _) H 4 rfl rfl rfl rfl rfl rfl sz52 ?_
            intro _ H'; simp only [List.set_cons_zero, List.set_cons_succ, List.take_succ_cons, List.take_zero, List.drop_succ_cons, List.drop_zero, List.cons_append, List.nil_append, List.append_nil, List.length_cons, List.length_nil, Nat.reduceAdd] at H'; clear H; have H := H'; clear H'
            refine k_nil ?_
            refine t_on trivial ?_
            refine t_take 11 rfl (by kernel_rfl) (by kernel_rfl) (by kernel_rfl) rfl (fun _ _ _ _ h => nomatch h.1) rfl (fun _ hS => r_fa0 rfl fo55_3) trivial ?_
            refine t_up1 12 (by kernel_rfl) ?_
            refine up_mk rfl ?_
            refine s_st (u := .slice _ _ _) H 4 rfl rfl rfl rfl rfl rfl sz53 ?_
            intro _ H'; simp only [List.set_cons_zero, List.set_cons_succ, List.take_succ_cons, List.take_zero, List.drop_succ_cons, List.drop_zero, List.cons_append, List.nil_append, List.append_nil, List.length_cons, List.length_nil, Nat.reduceAdd] at H'; clear H; have H := H'; clear H'
            refine k_nil ?_
            refine t_on trivial ?_
            refine t_take 13 rfl (by kernel_rfl) (by kernel_rfl) (by kernel_rfl) rfl (fun _ _ _ _ h => nomatch h.1) rfl (fun _ hS => r_fa0 rfl fo55_4) trivial ?_
            refine t_up1 14 (by kernel_rfl) ?_
            refine up_mk rfl ?_
            refine s_st (u := .slice _ _ _) H 4 rfl rfl rfl rfl rfl rfl sz53 ?_
            intro _ H'; simp only [List.set_cons_zero, List.set_cons_succ, List.take_succ_cons, List.take_zero, List.drop_succ_cons, List.drop_zero, List.cons_append, List.nil_append, List.append_nil, List.length_cons, List.length_nil, Nat.reduceAdd] at H'; clear H; have H := H'; clear H'
            refine k_nil ?_
            refine t_on trivial ?_
            refine t_done (by kernel_rfl) ?_
            refine k_met ?_
            exact ⟨_, _, _, _, _, _, _, _, _, hb1, hb2, hb3, rfl, rfl, H⟩
          · refine up_mk rfl ?_
            refine s_run rfl rfl (r_lo H 2 rfl rfl rfl ag53) ?_
            refine k_nil ?_
            refine t_on trivial ?_
            refine t_take 9 rfl (by kernel_rfl) (by kernel_rfl) (by kernel_rfl) rfl (fun _ _ _ _ h => nomatch h.1) rfl (fun _ hS => r_fa0 rfl fo55_1) trivial ?_
            refine t_up1 5 (by kernel_rfl) ?_
            refine up_mk rfl ?_
            refine s_call rfl (rFlags A3 m _ d.dirty _ (hr.dirty.nilF.later H.only (by simp)) (by have := hok.hd; omega) hm) (ca112 rfl) ?_
            rintro e W1 ⟨B2, b2, c2', rfl, hb2, H'⟩
            refine ⟨_, rfl, ?_⟩
            have H := H.more H'; clear H'; simp only [List.cons_append, List.nil_append] at H
            refine k_nil ?_
            refine t_on trivial ?_
            refine t_up1 8 (by kernel_rfl) ?_
            refine up_mk rfl ?_
            refine s_call rfl (rFlags A4 m _ d.pend _ (hr.pend.nilF.later H.only (by simp)) (by have := hok.hp; omega) hm) (ca112 rfl) ?_
            rintro e W1 ⟨B3, b3, c3', rfl, hb3, H'⟩
            refine ⟨_, rfl, ?_⟩
            have H := H.more H'; clear H'; simp only [List.cons_append, List.nil_append] at H
            refine k_nil ?_
            refine t_on trivial ?_
            refine t_up1 10 (by kernel_rfl) ?_
            refine up_mk rfl ?_
            refine s_st (u := .slice _ _ _) H 4 rfl rfl rfl rfl rfl rfl sz52 ?_
            intro _ H'; simp only [List.set_cons_zero, List.set_cons_succ, List.take_succ_cons, List.take_zero, List.drop_succ_cons, List.drop_zero, List.cons_append, List.nil_append, List.append_nil, List.length_cons, List.length_nil, Nat.reduceAdd] at H'; clear H; have H := H'; clear H'
            refine k_nil ?_
            refine t_on trivial ?_
            refine t_take 11 rfl (by kernel_rfl) (by kernel_rfl) (by kernel_rfl) rfl (fun _ _ _ _ h => nomatch h.1) rfl (fun _ hS => r_fa0 rfl fo55_3) trivial ?_
            refine t_up1 12 (by kernel_rfl) ?_
            refine up_mk rfl ?_
            refine s_st (u := .slice _ _ _) H 4 rfl rfl rfl rfl rfl rfl sz53 ?_
            intro _ H'; simp only [List.set_cons_zero, List.set_cons_succ, List.take_succ_cons, List.take_zero, List.drop_succ_cons, List.drop_zero, List.cons_append, List.nil_append, List.append_nil, List.length_cons, List.length_nil, Nat.reduceAdd] at H'; clear H; have H := H'; clear H'
            refine k_nil ?_
            refine t_on trivial ?_
            refine t_take 13 rfl (by kernel_rfl) (by kernel_rfl) (by kernel_rfl) rfl (fun _ _ _ _ h => nomatch h.1) rfl (fun _ hS => r_fa0 rfl fo55_4) trivial ?_
            refine t_up1 14 (by kernel_rfl) ?_
            refine up_mk rfl ?_
            refine s_st (u := .slice _ _ _) H 4 rfl rfl rfl rfl rfl rfl sz53 ?_
            intro _ H'; simp only [List.set_cons_zero, List.set_cons_succ, List.take_succ_cons, List.take_zero, List.drop_succ_cons, List.drop_zero, List.cons_append, List.nil_append, List.append_nil, List.length_cons, List.length_nil, Nat.reduceAdd] at H'; clear H; have H := H'; clear H'
            refine k_nil ?_
            refine t_on trivial ?_
            refine t_done (by kernel_rfl) ?_
            refine k_met ?_
            exact ⟨_, _, _, _, _, _, _, _, _, hb1, hb2, hb3, rfl, rfl, H⟩
        · refine up_mk rfl ?_
          refine s_run rfl rfl (r_lo H 1 rfl rfl rfl ag53) ?_
          refine k_nil ?_
          refine t_on trivial ?_
          refine t_up1 2 (by kernel_rfl) ?_
          refine up_mk rfl ?_
          refine s_call rfl (rLines A1 m _ d.last _ (hr.last.nilF.later H.only (by simp)) (by have := hok.hl; omega) hm) (ca111 rfl) ?_
          rintro e W1 ⟨B1, b1, c1', rfl, hb1, H'⟩
          refine ⟨_, rfl, ?_⟩
          have H := H.more H'; clear H'; simp only [List.cons_append, List.nil_append] at H
          refine k_nil ?_
          refine t_on trivial ?_
          refine t_take 9 rfl (by kernel_rfl) (by kernel_rfl) (by kernel_rfl) rfl (fun _ _ _ _ h => nomatch h.1) rfl (fun _ hS => r_fa0 rfl fo55_1) trivial ?_
          refine t_up1 5 (by kernel_rfl) ?_
          refine up_mk rfl ?_
          refine s_call rfl (rFlags A3 m _ d.dirty _ (hr.dirty.nilF.later H.only (by simp)) (by have := hok.hd; omega) hm) (ca112 rfl) ?_
          rintro e W1 ⟨B2, b2, c2', rfl, hb2, H'⟩
          refine ⟨_, rfl, ?_⟩
          have H := H.more H'; clear H'; simp only [List.cons_append, List.nil_append] at H
          refine k_nil ?_
          refine t_on trivial ?_
          refine t_up1 8 (by kernel_rfl) ?_
          refine up_mk rfl ?_
          refine s_call rfl (rFlags A4 m _ d.pend _ (hr.pend.nilF.later H.only (by simp)) (by have := hok.hp; omega) hm) (ca112 rfl) ?_
          rintro e W1 ⟨B3, b3, c3', rfl, hb3, H'⟩
          refine ⟨_, rfl, ?_⟩
          have H := H.more H'; clear H'; simp only [List.cons_append, List.nil_append] at H
          refine k_nil ?_
          refine t_on trivial ?_
          refine t_up1 10 (by kernel_rfl) ?_
          refine up_mk rfl ?_
          refine s_st (u := .slice _ _ _) H 4 rfl rfl rfl rfl rfl rfl sz52 ?_
          intro _ H'; simp only [List.set_cons_zero, List.set_cons_succ, List.take_succ_cons, List.take_zero, List.drop_succ_cons, List.drop_zero, List.cons_append, List.nil_append, List.append_nil, List.length_cons, List.length_nil, Nat.reduceAdd] at H'; clear H; have H := H'; clear H'
          refine k_nil ?_
          refine t_on trivial ?_
          refine t_take 11 rfl (by kernel_rfl) (by kernel_rfl) (by kernel_rfl) rfl (fun _ _ _ _ h => nomatch h.1) rfl (fun _ hS => r_fa0 rfl fo55_3) trivial ?_
          refine t_up1 12 (by kernel_rfl) ?_
          refine up_mk rfl ?_
          refine s_st (u := .slice _ _ _) H 4 rfl rfl rfl rfl rfl rfl sz53 ?_
          intro _ H'; simp only [List.set_cons_zero, List.set_cons_succ, List.take_succ_cons, List.take_zero, List.drop_succ_cons, List.drop_zero, List.cons_append, List.nil_append, List.append_nil, List.length_cons, List.length_nil, Nat.reduceAdd] at H'; clear H; have H := H'; clear H'
          refine k_nil ?_
          refine t_on trivial ?_
          refine t_take 13 rfl (by kernel_rfl) (by kernel_rfl) (by kernel_rfl) rfl (fun _ _ _ _ h => nomatch h.1) rfl (fun _ hS => r_fa0 rfl fo55_4) trivial ?_
          refine t_up1 14 (by kernel_rfl) ?_
          refine up_mk rfl ?_
          refine s_st (u := .slice _ _ _) H 4 rfl rfl rfl rfl rfl rfl sz53 ?_
          intro _ H'; simp only [List.set_cons_zero, List.set_cons_succ, List.take_succ_cons, List.take_zero, List.drop_succ_cons, List.drop_zero, List.cons_append, List.nil_append, List.append_nil, List.length_cons, List.length_nil, Nat.reduceAdd] at H'; clear H; have H := H'; clear H'
          refine k_nil ?_
          refine t_on trivial ?_
          refine t_done (by kernel_rfl) ?_
          refine k_met ?_
          exact ⟨_, _, _, _, _, _, _, _, _, hb1, hb2, hb3, rfl, rfl, H⟩
      · refine up_mk rfl ?_
        refine s_run rfl rfl (r_lo H 1 rfl rfl rfl ag53) ?_
        refine k_nil ?_
        refine t_on trivial ?_
        refine t_up2 2 4 (by kernel_rfl) ?_ ?_
        · refine up_mk rfl ?_
          refine s_call rfl (rLines A1 m _ d.last _ (hr.last.nilF.later H.only (by simp)) (by have := hok.hl; omega) hm) (ca111 rfl) ?_
          rintro e W1 ⟨B1, b1, c1', rfl, hb1, H'⟩
          refine ⟨_, rfl, ?_⟩
          have H := H.more H'; clear H'; simp only [List.cons_append, List.nil_append] at H
          refine k_nil ?_
          refine t_on trivial ?_
          refine t_up1 4 (by kernel_rfl) ?_
          refine up_mk rfl ?_
          refine s_run rfl rfl (r_lo H 2 rfl rfl rfl ag53) ?_
          refine k_nil ?_
          refine t_on trivial ?_
          refine t_take 9 rfl (by kernel_rfl) (by kernel_rfl) (by kernel_rfl) rfl (fun _ _ _ _ h => nomatch h.1) rfl (fun _ hS => r_fa0 rfl fo55_1) trivial ?_
          refine t_up1 5 (by kernel_rfl) ?_
          refine up_mk rfl ?_
          refine s_call rfl (rFlags A3 m _ d.dirty _ (hr.dirty.nilF.later H.only (by simp)) (by have := hok.hd; omega) hm) (ca112 rfl) ?_
          rintro e W1 ⟨B2, b2, c2', rfl, hb2, H'⟩
          refine ⟨_, rfl, ?_⟩
          have H := H.more H'; clear H'; simp only [List.cons_append, List.nil_append] at H
          refine k_nil ?_
          refine t_on trivial ?_
          refine t_up1 8 (by kernel_rfl) ?_
          refine up_mk rfl ?_
          refine s_call rfl (rFlags A4 m _ d.pend _ (hr.pend.nilF.later H.only (by simp)) (by have := hok.hp; omega) hm) (ca112 rfl) ?_
          rintro e W1 ⟨B3, b3, c3', rfl, hb3, H'⟩
          refine ⟨_, rfl, ?_⟩
          have H := H.more H'; clear H'; simp only [List.cons_append, List.nil_append] at H
          refine k_nil ?_
          refine t_on trivial ?_
          refine t_up1 10 (by kernel_rfl) ?_
          refine up_mk rfl ?_
          refine s_st (u := .slice _ _ _) H 4 rfl rfl rfl rfl rfl rfl sz52 ?_
          intro _ H'; simp only [List.set_cons_zero, List.set_cons_succ, List.take_succ_cons, List.take_zero, List.drop_succ_cons, List.drop_zero, List.cons_append, List.nil_append, List.append_nil, List.length_cons, List.length_nil, Nat.reduceAdd] at H'; clear H; have H := H'; clear H'
          refine k_nil ?_
          refine t_on trivial ?_
          refine t_take 11 rfl (by kernel_rfl) (by kernel_rfl) (by kernel_rfl) rfl (fun _ _ _ _ h => nomatch h.1) rfl (fun _ hS => r_fa0 rfl fo55_3) trivial ?_
          refine t_up1 12 (by kernel_rfl) ?_
          refine up_mk rfl ?_
          refine s_st (u := .slice _ _ _) H 4 rfl rfl rfl rfl rfl rfl sz53 ?_
          intro _ H'; simp only [List.set_cons_zero, List.set_cons_succ, List.take_succ_cons, List.take_zero, List.drop_succ_cons, List.drop_zero, List.cons_append, List.nil_append, List.append_nil, List.length_cons, List.length_nil, Nat.reduceAdd] at H'; clear H; have H := H'; clear H'
          refine k_nil ?_
          refine t_on trivial ?_
          refine t_take 13 rfl (by kernel_rfl) (by kernel_rfl) (by kernel_rfl) rfl (fun _ _ _ _ h => nomatch h.1) rfl (fun _ hS => r_fa0 rfl fo55_4) trivial ?_
          refine t_up1 14 (by kernel_rfl) ?_
          refine up_mk rfl ?_
          refine s_st (u := .slice _ _ _) H 4 rfl rfl rfl rfl rfl rfl sz53 ?_
          intro _ H'; simp only [List.set_cons_zero, List.set_cons_succ, List.take_succ_cons, List.take_zero, List.drop_succ_cons, List.drop_zero, List.cons_append, List.nil_append, List.append_nil, List.length_cons, List.length_nil, Nat.reduceAdd] at H'; clear H; have H := H'; clear H'
          refine k_nil ?_
          refine t_on trivial ?_
          refine t_done (by kernel_rfl) ?_
          refine k_met ?_
          exact ⟨_, _, _, _, _, _, _, _, _, hb1, hb2, hb3, rfl, rfl, H⟩
        · refine up_mk rfl ?_
          refine s_run rfl rfl (r_lo H 1 rfl rfl rfl ag53) ?_
          refine k_nil ?_
          refine t_on trivial ?_
          refine t_up1 2 (by kernel_rfl) ?_
          refine up_mk rfl ?_
          refine s_call rfl (rLines A1 m _ d.last _ (hr.last.nilF.later H.only (by simp)) (by have := hok.hl; omega) hm) (ca111 rfl) ?_
          rintro e W1 ⟨B1, b1, c1', rfl, hb1, H'⟩
          refine ⟨_, rfl, ?_⟩
          have H := H.more H'; clear H'; simp only [List.cons_append, List.nil_append] at H
          refine k_nil ?_
          refine t_on trivial ?_
          refine t_take 9 rfl (by kernel_rfl) (by kernel_rfl) (by kernel_rfl) rfl (fun _ _ _ _ h => nomatch h.1) rfl (fun _ hS => r_fa0 rfl fo55_1) trivial ?_
          refine t_up1 5 (by kernel_rfl) ?_
          refine up_mk rfl ?_
          refine s_call rfl (rFlags A3 m _ d.dirty _ (hr.dirty.nilF.later H.only (by simp)) (by have := hok.hd; omega) hm) (ca112 rfl) ?_
          rintro e W1 ⟨B2, b2, c2', rfl, hb2, H'⟩
          refine ⟨_, rfl, ?_⟩
          have H := H.more H'; clear H'; simp only [List.cons_append, List.nil_append] at H
          refine k_nil ?_
          refine t_on trivial ?_
          refine t_up1 8 (by kernel_rfl) ?_
          refine up_mk rfl ?_
          refine s_call rfl (rFlags A4 m _ d.pend _ (hr.pend.nilF.later H.only (by simp)) (by have := hok.hp; omega) hm) (ca112 rfl) ?_
          rintro e W1 ⟨B3, b3, c3', rfl, hb3, H'⟩
          refine ⟨_, rfl, ?_⟩
          have H := H.more H'; clear H'; simp only [List.cons_append, List.nil_append] at H
          refine k_nil ?_
          refine t_on trivial ?_
          refine t_up1 10 (by kernel_rfl) ?_
          refine up_mk rfl ?_
          refine s_st (u := .slice _ _ _) H 4 rfl rfl rfl rfl rfl rfl sz52 ?_
          intro _ H'; simp only [List.set_cons_zero, List.set_cons_succ, List.take_succ_cons, List.take_zero, List.drop_succ_cons, List.drop_zero, List.cons_append, List.nil_append, List.append_nil, List.length_cons, List.length_nil, Nat.reduceAdd] at H'; clear H; have H := H'; clear H'
          refine k_nil ?_
          refine t_on trivial ?_
          refine t_take 11 rfl (by kernel_rfl) (by kernel_rfl) (by kernel_rfl) rfl (fun _ _ _ _ h => nomatch h.1) rfl (fun _ hS => r_fa0 rfl fo55_3) trivial ?_
          refine t_up1 12 (by kernel_rfl) ?_
          refine up_mk rfl ?_
          refine s_st (u := .slice _ _ _) H 4 rfl rfl rfl rfl rfl rfl sz53 ?_
          intro _ H'; simp only [List.set_cons_zero, List.set_cons_succ, List.take_succ_cons, List.take_zero, List.drop_succ_cons, List.drop_zero, List.cons_append, List.nil_append, List.append_nil, List.length_cons, List.length_nil, Nat.reduceAdd] at H'; clear H; have H := H'; clear H'
          refine k_nil ?_
          refine t_on trivial ?_
          refine t_take 13 rfl (by kernel_rfl) (by kernel_rfl) (by kernel_rfl) rfl (fun _ _ _ _ h => nomatch h.1) rfl (fun _ hS => r_fa0 rfl fo55_4) trivial ?_
          refine t_up1 14 (by kernel_rfl) ?_
          refine up_mk rfl ?_
          refine s_st (u := .slice _ _ _) H 4 rfl rfl rfl rfl rfl rfl sz53 ?_
          intro _ H'; simp only [List.set_cons_zero, List.set_cons_succ, List.take_succ_cons, List.take_zero, List.drop_succ_cons, List.drop_zero, List.cons_append, List.nil_append, List.append_nil, List.length_cons, List.length_nil, Nat.reduceAdd] at H'; clear H; have H := H'; clear H'
          refine k_nil ?_
          refine t_on trivial ?_
          refine t_done (by kernel_rfl) ?_
          refine k_met ?_
          exact ⟨_, _, _, _, _, _, _, _, _, hb1, hb2, hb3, rfl, rfl, H⟩
    · refine up_mk rfl ?_
      refine s_run rfl rfl (r_lo H 1 rfl rfl rfl ag53) ?_
      refine k_nil ?_
      refine t_on trivial ?_
      refine t_up2 1 7 (by kernel_rfl) ?_ ?_
      · refine up_mk rfl ?_
        refine s_run rfl rfl (r_lo H 1 rfl rfl rfl ag52) ?_
        refine k_nil ?_
        refine t_on trivial ?_
        refine t_up2 2 7 (by kernel_rfl) ?_ ?_
        · refine up_mk rfl ?_
          refine s_call rfl (rLines A1 m _ d.last _ (hr.last.nilF.later H.only (by simp)) (by have := hok.hl; omega) hm) (ca111 rfl) ?_
          rintro e W1 ⟨B1, b1, c1', rfl, hb1, H'⟩
          refine ⟨_, rfl, ?_⟩
          have H := H.more H'; clear H'; simp only [List.cons_append, List.nil_append] at H
          refine k_nil ?_
          refine t_on trivial ?_
          refine t_up2 5 7 (by kernel_rfl) ?_ ?_
          · refine up_mk rfl ?_
            refine s_call rfl (rFlags A3 m _ d.dirty _ (hr.dirty.nilF.later H.only (by simp)) (by have := hok.hd; omega) hm) (ca112 rfl) ?_
            rintro e W1 ⟨B2, b2, c2', rfl, hb2, H'⟩
            refine ⟨_, rfl, ?_⟩
            have H := H.more H'; clear H'; simp only [List.cons_append, List.nil_append] at H
            refine k_nil ?_
            refine t_on trivial ?_
            refine t_up1 7 (by kernel_rfl) ?_
            refine up_mk rfl ?_
            refine s_run rfl rfl (r_lo H 3 rfl rfl rfl ag53) ?_
            refine k_nil ?_
            refine t_on trivial ?_
            refine t_take 9 rfl (by kernel_rfl) (by kernel_rfl) (by kernel_rfl) rfl (fun _ _ _ _ h => nomatch h.1) rfl (fun _ hS => r_fa0 rfl fo55_1) trivial ?_
            refine t_up1 8 (by kernel_rfl) ?_
            refine up_mk rfl ?_
            refine s_call rfl (rFlags A4 m _ d.pend _ (hr.pend.nilF.later H.only (by simp)) (by have := hok.hp; omega) hm) (ca112 rfl) ?_
            rintro e W1 ⟨B3, b3, c3', rfl, hb3, H'⟩
            refine ⟨_, rfl, ?_⟩
            have H := H.more H'; clear H'; simp only [List.cons_append, List.nil_append] at H
            refine k_nil ?_
            refine t_on trivial ?_
            refine t_up1 10 (by kernel_rfl) ?_
            refine up_mk rfl ?_
            refine s_st (u := .slice _ _ _) H 4 rfl rfl rfl rfl rfl rfl sz52 ?_
            intro _ H'; simp only [List.set_cons_zero, List.set_cons_succ, List.take_succ_cons, List.take_zero, List.drop_succ_cons, List.drop_zero, List.cons_append, List.nil_append, List.append_nil, List.length_cons, List.length_nil, Nat.reduceAdd] at H'; clear H; have H := H'; clear H'
            refine k_nil ?_
            refine t_on trivial ?_
            refine t_take 11 rfl (by kernel_rfl) (by kernel_rfl) (by kernel_rfl) rfl (fun _ _ _ _ h => nomatch h.1) rfl (fun _ hS => r_fa0 rfl fo55_3) trivial ?_
            refine t_up1 12 (by kernel_rfl) ?_
            refine up_mk rfl ?_
            refine s_st (u := .slice _ _ _) H 4 rfl rfl rfl rfl rfl rfl sz53 ?_
            intro _ H'; simp only [List.set_cons_zero, List.set_cons_succ, List.take_succ_cons, List.take_zero, List.drop_succ_cons, List.drop_zero, List.cons_append, List.nil_append, List.append_nil, List.length_cons, List.length_nil, Nat.reduceAdd] at H'; clear H; have H := H'; clear H'
            refine k_nil ?_
            refine t_on trivial ?_
            refine t_take 13 rfl (by kernel_rfl) (by kernel_rfl) (by kernel_rfl) rfl (fun _ _ _ _ h => nomatch h.1) rfl (fun _ hS => r_fa0 rfl fo55_4) trivial ?_
            refine t_up1 14 (by kernel_rfl) ?_
            refine up_mk rfl ?_
            refine s_st (u := .slice _ _ _) H 4 rfl rfl rfl rfl rfl rfl sz53 ?_
            intro _ H'; simp only [List.set_cons_zero, List.set_cons_succ, List.take_succ_cons, List.take_zero, List.drop_succ_cons, List.drop_zero, List.cons_append, List.nil_append, List.append_nil, List.length_cons, List.length_nil, Nat.reduceAdd] at H'; clear H; have H := H'; clear H'
            refine k_nil ?_
            refine t_on trivial ?_
            refine t_done (by kernel_rfl) ?_
            refine k_met ?_
            exact ⟨_, _, _, _, _, _, _, _, _, hb1, hb2, hb3, rfl, rfl, H⟩
          · refine up_mk rfl ?_
            refine s_run rfl rfl (r_lo H 2 rfl rfl rfl ag53) ?_
            refine k_nil ?_
            refine t_on trivial ?_
            refine t_take 9 rfl (by kernel_rfl) (by kernel_rfl) (by kernel_rfl) rfl (fun _ _ _ _ h => nomatch h.1) rfl (fun _ hS => r_fa0 rfl fo55_1) trivial ?_
            refine t_up1 5 (by kernel_rfl) ?_
            refine up_mk rfl ?_
            refine s_call rfl (rFlags A3 m _ d.dirty _ (hr.dirty.nilF.later H.only (by simp)) (by have := hok.hd; omega) hm) (ca112 rfl) ?_
            rintro e W1 ⟨B2, b2, c2', rfl, hb2, H'⟩
            refine ⟨_, rfl, ?_⟩
            have H := H.more H'; clear H'; simp only [List.cons_append, List.nil_append] at H
            refine k_nil ?_
            refine t_on trivial ?_
            refine t_up1 8 (by kernel_rfl) ?_
            refine up_mk rfl ?_
            refine s_call rfl (rFlags A4 m _ d.pend _ (hr.pend.nilF.later H.only (by simp)) (by have := hok.hp; omega) hm) (ca112 rfl) ?_
            rintro e W1 ⟨B3, b3, c3', rfl, hb3, H'⟩
            refine ⟨_, rfl, ?_⟩
            have H := H.more H'; clear H'; simp only [List.cons_append, List.nil_append] at H
            refine k_nil ?_
            refine t_on trivial ?_
            refine t_up1 10 (by kernel_rfl) ?_
            refine up_mk rfl ?_
            refine s_st (u := .slice _ _ _) H 4 rfl rfl rfl rfl rfl rfl sz52 ?_
            intro _ H'; simp only [List.set_cons_zero, List.set_cons_succ, List.take_succ_cons, List.take_zero, List.drop_succ_cons, List.drop_zero, List.cons_append, List.nil_append, List.append_nil, List.length_cons, List.length_nil, Nat.reduceAdd] at H'; clear H; have H := H'; clear H'
            refine k_nil ?_
            refine t_on trivial ?_
            refine t_take 11 rfl (by kernel_rfl) (by kernel_rfl) (by kernel_rfl) rfl (fun _ _ _ _ h => nomatch h.1) rfl (fun _ hS => r_fa0 rfl fo55_3) trivial ?_
            refine t_up1 12 (by kernel_rfl) ?_
            refine up_mk rfl ?_
            refine s_st (u := .slice _ _ _) H 4 rfl rfl rfl rfl rfl rfl sz53 ?_
            intro _ H'; simp only [List.set_cons_zero, List.set_cons_succ, List.take_succ_cons, List.take_zero, List.drop_succ_cons, List.drop_zero, List.cons_append, List.nil_append, List.append_nil, List.length_cons, List.length_nil, Nat.reduceAdd] at H'; clear H; have H := H'; clear H'
            refine k_nil ?_
            refine t_on trivial ?_
            refine t_take 13 rfl (by kernel_rfl) (by kernel_rfl) (by kernel_rfl) rfl (fun _ _ _ _ h => nomatch h.1) rfl (fun _ hS => r_fa0 rfl fo55_4) trivial ?_
            refine t_up1 14 (by kernel_rfl) ?_
            refine up_mk rfl ?_
            refine s_st (u := .slice _ _ _) H 4 rfl rfl rfl rfl rfl rfl sz53 ?_
            intro _ H'; simp only [List.set_cons_zero, List.set_cons_succ, List.take_succ_cons, List.take_zero, List.drop_succ_cons, List.drop_zero, List.cons_append, List.nil_append, List.append_nil, List.length_cons, List.length_nil, Nat.reduceAdd] at H'; clear H; have H := H'; clear H'
            refine k_nil ?_
            refine t_on trivial ?_
            refine t_done (by kernel_rfl) ?_
            refine k_met ?_
            exact ⟨_, _, _, _, _, _, _, _, _, hb1, hb2, hb3, rfl, rfl, H⟩
        · refine up_mk rfl ?_
          refine s_run rfl rfl (r_lo H 1 rfl rfl rfl ag53) ?_
          refine k_nil ?_
          refine t_on trivial ?_
          refine t_up1 2 (by kernel_rfl) ?_
          refine up_mk rfl ?_
          refine s_call rfl (rLines A1 m _ d.last _ (hr.last.nilF.later H.only (by simp)) (by have := hok.hl; omega) hm) (ca111 rfl) ?_
          rintro e W1 ⟨B1, b1, c1', rfl, hb1, H'⟩
          refine ⟨_, rfl, ?_⟩
          have H := H.more H'; clear H'; simp only [List.cons_append, List.nil_append] at H
          refine k_nil ?_
          refine t_on trivial ?_
          refine t_take 9 rfl (by kernel_rfl) (by kernel_rfl) (by kernel_rfl) rfl (fun _ _ _ _ h => nomatch h.1) rfl (fun _ hS => r_fa0 rfl fo55_1) trivial ?_
          refine t_up1 5 (by kernel_rfl) ?_
          refine up_mk rfl ?_
          refine s_call rfl (rFlags A3 m _ d.dirty _ (hr.dirty.nilF.later H.only (by simp)) (by have := hok.hd; omega) hm) (ca112 rfl) ?_
          rintro e W1 ⟨B2, b2, c2', rfl, hb2, H'⟩
          refine ⟨_, rfl, ?_⟩
          have H := H.more H'; clear H'; simp only [List.cons_append, List.nil_append] at H
          refine k_nil ?_
          refine t_on trivial ?_
          refine t_up1 8 (by kernel_rfl) ?_
          refine up_mk rfl ?_
          refine s_call rfl (rFlags A4 m _ d.pend _ (hr.pend.nilF.later H.only (by simp)) (by have := hok.hp; omega) hm) (ca112 rfl) ?_
          rintro e W1 ⟨B3, b3, c3', rfl, hb3, H'⟩
          refine ⟨_, rfl, ?_⟩
          have H := H.more H'; clear H'; simp only [List.cons_append, List.nil_append] at H
          refine k_nil ?_
          refine t_on trivial ?_
          refine t_up1 10 (by kernel_rfl) ?_
          refine up_mk rfl ?_
          refine s_st (u := .slice _ _ _) H 4 rfl rfl rfl rfl rfl rfl sz52 ?_
          intro _ H'; simp only [List.set_cons_zero, List.set_cons_succ, List.take_succ_cons, List.take_zero, List.drop_succ_cons, List.drop_zero, List.cons_append, List.nil_append, List.append_nil, List.length_cons, List.length_nil, Nat.reduceAdd] at H'; clear H; have H := H'; clear H'
          refine k_nil ?_
          refine t_on trivial ?_
          refine t_take 11 rfl (by kernel_rfl) (by kernel_rfl) (by kernel_rfl) rfl (fun _ _ _ _ h => nomatch h.1) rfl (fun _ hS => r_fa0 rfl fo55_3) trivial ?_
          refine t_up1 12 (by kernel_rfl) ?_
          refine up_mk rfl ?_
          refine s_st (u := .slice _ _ _) H 4 rfl rfl rfl rfl rfl rfl sz53 ?_
          intro _ H'; simp only [List.set_cons_zero, List.set_cons_succ, List.take_succ_cons, List.take_zero, List.drop_succ_cons, List.drop_zero, List.cons_append, List.nil_append, List.append_nil, List.length_cons, List.length_nil, Nat.reduceAdd] at H'; clear H; have H := H'; clear H'
          refine k_nil ?_
          refine t_on trivial ?_
          refine t_take 13 rfl (by kernel_rfl) (by kernel_rfl) (by kernel_rfl) rfl (fun _ _ _ _ h => nomatch h.1) rfl (fun _ hS => r_fa0 rfl fo55_4) trivial ?_
          refine t_up1 14 (by kernel_rfl) ?_
          refine up_mk rfl ?_
          refine s_st (u := .slice _ _ _) H 4 rfl rfl rfl rfl rfl rfl sz53 ?_
          intro _ H'; simp only [List.set_cons_zero, List.set_cons_succ, List.take_succ_cons, List.take_zero, List.drop_succ_cons, List.drop_zero, List.cons_append, List.nil_append, List.append_nil, List.length_cons, List.length_nil, Nat.reduceAdd] at H'; clear H; have H := H'; clear H'
          refine k_nil ?_
          refine t_on trivial ?_
          refine t_done (by kernel_rfl) ?_
          refine k_met ?_
          exact ⟨_, _, _, _, _, _, _, _, _, hb1, hb2, hb3, rfl, rfl, H⟩
      · refine up_mk rfl ?_
        refine s_run rfl rfl (r_lo H 1 rfl rfl rfl ag53) ?_
        refine k_nil ?_
        refine t_on trivial ?_
        refine t_up1 1 (by kernel_rfl) ?_
        refine up_mk rfl ?_
        refine s_run rfl rfl (r_lo H 1 rfl rfl rfl ag52) ?_
        refine k_nil ?_
        refine t_on trivial ?_
        refine t_up1 2 (by kernel_rfl) ?_
        refine up_mk rfl ?_
        refine s_call rfl (rLines A1 m _ d.last _ (hr.last.nilF.later H.only (by simp)) (by have := hok.hl; omega) hm) (ca111 rfl) ?_
        rintro e W1 ⟨B1, b1, c1', rfl, hb1, H'⟩
        refine ⟨_, rfl, ?_⟩
        have H := H.more H'; clear H'; simp only [List.cons_append, List.nil_append] at H
        refine k_nil ?_
        refine t_on trivial ?_
        refine t_take 9 rfl (by kernel_rfl) (by kernel_rfl) (by kernel_rfl) rfl (fun _ _ _ _ h => nomatch h.1) rfl (fun _ hS => r_fa0 rfl fo55_1) trivial ?_
        refine t_up1 5 (by kernel_rfl) ?_
        refine up_mk rfl ?_
        refine s_call rfl (rFlags A3 m _ d.dirty _ (hr.dirty.nilF.later H.only (by simp)) (by have := hok.hd; omega) hm) (ca112 rfl) ?_
        rintro e W1 ⟨B2, b2, c2', rfl, hb2, H'⟩
        refine ⟨_, rfl, ?_⟩
        have H := H.more H'; clear H'; simp only [List.cons_append, List.nil_append] at H
        refine k_nil ?_
        refine t_on trivial ?_
        refine t_up1 8 (by kernel_rfl) ?_
        refine up_mk rfl ?_
        refine s_call rfl (rFlags A4 m _ d.pend _ (hr.pend.nilF.later H.only (by simp)) (by have := hok.hp; omega) hm) (ca112 rfl) ?_
        rintro e W1 ⟨B3, b3, c3', rfl, hb3, H'⟩
        refine ⟨_, rfl, ?_⟩
        have H := H.more H'; clear H'; simp only [List.cons_append, List.nil_append] at H
        refine k_nil ?_
        refine t_on trivial ?_
        refine t_up1 10 (by kernel_rfl) ?_
        refine up_mk rfl ?_
        refine s_st (u := .slice _ _ _) H 4 rfl rfl rfl rfl rfl rfl sz52 ?_
        intro _ H'; simp only [List.set_cons_zero, List.set_cons_succ, List.take_succ_cons, List.take_zero, List.drop_succ_cons, List.drop_zero, List.cons_append, List.nil_append, List.append_nil, List.length_cons, List.length_nil, Nat.reduceAdd] at H'; clear H; have H := H'; clear H'
        refine k_nil ?_
        refine t_on trivial ?_
        refine t_take 11 rfl (by kernel_rfl) (by kernel_rfl) (by kernel_rfl) rfl (fun _ _ _ _ h => nomatch h.1) rfl (fun _ hS => r_fa0 rfl fo55_3) trivial ?_
        refine t_up1 12 (by kernel_rfl) ?_
        refine up_mk rfl ?_
        refine s_st (u := .slice _ _ _) H 4 rfl rfl rfl rfl rfl rfl sz53 ?_
        intro _ H'; simp only [List.set_cons_zero, List.set_cons_succ, List.take_succ_cons, List.take_zero, List.drop_succ_cons, List.drop_zero, List.cons_append, List.nil_append, List.append_nil, List.length_cons, List.length_nil, Nat.reduceAdd] at H'; clear H; have H := H'; clear H'
        refine k_nil ?_
        refine t_on trivial ?_
        refine t_take 13 rfl (by kernel_rfl) (by kernel_rfl) (by kernel_rfl) rfl (fun _ _ _ _ h => nomatch h.1) rfl (fun _ hS => r_fa0 rfl fo55_4) trivial ?_
        refine t_up1 14 (by kernel_rfl) ?_
        refine up_mk rfl ?_
        refine s_st (u := .slice _ _ _) H 4 rfl rfl rfl rfl rfl rfl sz53 ?_
        intro _ H'; simp only [List.set_cons_zero, List.set_cons_succ, List.take_succ_cons, List.take_zero, List.drop_succ_cons, List.drop_zero, List.cons_append, List.nil_append, List.append_nil, List.length_cons, List.length_nil, Nat.reduceAdd] at H'; clear H; have H := H'; clear H'
        refine k_nil ?_
        refine t_on trivial ?_
        refine t_done (by kernel_rfl) ?_
        refine k_met ?_
        exact ⟨_, _, _, _, _, _, _, _, _, hb1, hb2, hb3, rfl, rfl, H⟩
    · refine up_mk rfl ?_
      refine s_run rfl rfl (r_lo H 1 rfl rfl rfl ag53) ?_
      refine k_nil ?_
      refine t_on trivial ?_
      refine t_up2 1 4 (by kernel_rfl) ?_ ?_
      · refine up_mk rfl ?_
        refine s_run rfl rfl (r_lo H 1 rfl rfl rfl ag52) ?_
        refine k_nil ?_
        refine t_on trivial ?_
        refine t_up2 2 4 (by kernel_rfl) ?_ ?_
        · refine up_mk rfl ?_
          refine s_call rfl (rLines A1 m _ d.last _ (hr.last.nilF.later H.only (by simp)) (by have := hok.hl; omega) hm) (ca111 rfl) ?_
          rintro e W1 ⟨B1, b1, c1', rfl, hb1, H'⟩
          refine ⟨_, rfl, ?_⟩
          have H := H.more H'; clear H'; simp only [List.cons_append, List.nil_append] at H
          refine k_nil ?_
          refine t_on trivial ?_
          refine t_up1 4 (by kernel_rfl) ?_
          refine up_mk rfl ?_
          refine s_run rfl rfl (r_lo H 2 rfl rfl rfl ag53) ?_
          refine k_nil ?_
          refine t_on trivial ?_
          refine t_take 9 rfl (by kernel_rfl) (by kernel_rfl) (by kernel_rfl) rfl (fun _ _ _ _ h => nomatch h.1) rfl (fun _ hS => r_fa0 rfl fo55_1) trivial ?_
          refine t_up1 5 (by kernel_rfl) ?_
          refine up_mk rfl ?_
          refine s_call rfl (rFlags A3 m _ d.dirty _ (hr.dirty.nilF.later H.only (by simp)) (by have := hok.hd; omega) hm) (ca112 rfl) ?_
          rintro e W1 ⟨B2, b2, c2', rfl, hb2, H'⟩
          refine ⟨_, rfl, ?_⟩
          have H := H.more H'; clear H'; simp only [List.cons_append, List.nil_append] at H
          refine k_nil ?_
          refine t_on trivial ?_
          refine t_up1 8 (by kernel_rfl) ?_
          refine up_mk rfl ?_
          refine s_call rfl (rFlags A4 m _ d.pend _ (hr.pend.nilF.later H.only (by simp)) (by have := hok.hp; omega) hm) (ca112 rfl) ?_
          rintro e W1 ⟨B3, b3, c3', rfl, hb3, H'⟩
          refine ⟨_, rfl, ?_⟩
          have H := H.more H'; clear H'; simp only [List.cons_append, List.nil_append] at H
          refine k_nil ?_
          refine t_on trivial ?_
          refine t_up1 10 (by kernel_rfl) ?_
          refine up_mk rfl ?_
          refine s_st (u := .slice _ _ _) H 4 rfl rfl rfl rfl rfl rfl sz52 ?_
          intro _ H'; simp only [List.set_cons_zero, List.set_cons_succ, List.take_succ_cons, List.take_zero, List.drop_succ_cons, List.drop_zero, List.cons_append, List.nil_append, List.append_nil, List.length_cons, List.length_nil, Nat.reduceAdd] at H'; clear H; have H := H'; clear H'
          refine k_nil ?_
          refine t_on trivial ?_
          refine t_take 11 rfl (by kernel_rfl) (by kernel_rfl) (by kernel_rfl) rfl (fun _ _ _ _ h => nomatch h.1) rfl (fun _ hS => r_fa0 rfl fo55_3) trivial ?_
          refine t_up1 12 (by kernel_rfl) ?_
          refine up_mk rfl ?_
          refine s_st (u := .slice _ _ _) H 4 rfl rfl rfl rfl rfl rfl sz53 ?_
          intro _ H'; simp only [List.set_cons_zero, List.set_cons_succ, List.take_succ_cons, List.take_zero, List.drop_succ_cons, List.drop_zero, List.cons_append, List.nil_append, List.append_nil, List.length_cons, List.length_nil, Nat.reduceAdd] at H'; clear H; have H := H'; clear H'
          refine k_nil ?_
          refine t_on trivial ?_
          refine t_take 13 rfl (by kernel_rfl) (by kernel_rfl) (by kernel_rfl) rfl (fun _ _ _ _ h => nomatch h.1) rfl (fun _ hS => r_fa0 rfl fo55_4) trivial ?_
          refine t_up1 14 (by kernel_rfl) ?_
          refine up_mk rfl ?_
          refine s_st (u := .slice _ _ _) H 4 rfl rfl rfl rfl rfl rfl sz53 ?_
          intro _ H'; simp only [List.set_cons_zero, List.set_cons_succ, List.take_succ_cons, List.take_zero, List.drop_succ_cons, List.drop_zero, List.cons_append, List.nil_append, List.append_nil, List.length_cons, List.length_nil, Nat.reduceAdd] at H'; clear H; have H := H'; clear H'
          refine k_nil ?_
          refine t_on trivial ?_
          refine t_done (by kernel_rfl) ?_
          refine k_met ?_
          exact ⟨_, _, _, _, _, _, _, _, _, hb1, hb2, hb3, rfl, rfl, H⟩
        · refine up_mk rfl ?_
          refine s_run rfl rfl (r_lo H 1 rfl rfl rfl ag53) ?_
          refine k_nil ?_
          refine t_on trivial ?_
          refine t_up1 2 (by kernel_rfl) ?_
          refine up_mk rfl ?_
          refine s_call rfl (rLines A1 m _ d.last _ (hr.last.nilF.later H.only (by simp)) (by have := hok.hl; omega) hm) (ca111 rfl) ?_
          rintro e W1 ⟨B1, b1, c1', rfl, hb1, H'⟩
          refine ⟨_, rfl, ?_⟩
          have H := H.more H'; clear H'; simp only [List.cons_append, List.nil_append] at H
          refine k_nil ?_
          refine t_on trivial ?_
          refine t_take 9 rfl (by kernel_rfl) (by kernel_rfl) (by kernel_rfl) rfl (fun _ _ _ _ h => nomatch h.1) rfl (fun _ hS => r_fa0 rfl fo55_1) trivial ?_
          refine t_up1 5 (by kernel_rfl) ?_
          refine up_mk rfl ?_
          refine s_call rfl (rFlags A3 m _ d.dirty _ (hr.dirty.nilF.later H.only (by simp)) (by have := hok.hd; omega) hm) (ca112 rfl) ?_
          rintro e W1 ⟨B2, b2, c2', rfl, hb2, H'⟩
          refine ⟨_, rfl, ?_⟩
          have H := H.more H'; clear H'; simp only [List.cons_append, List.nil_append] at H
          refine k_nil ?_
          refine t_on trivial ?_
          refine t_up1 8 (by kernel_rfl) ?_
          refine up_mk rfl ?_
          refine s_call rfl (rFlags A4 m _ d.pend _ (hr.pend.nilF.later H.only (by simp)) (by have := hok.hp; omega) hm) (ca112 rfl) ?_
          rintro e W1 ⟨B3, b3, c3', rfl, hb3, H'⟩
          refine ⟨_, rfl, ?_⟩
          have H := H.more H'; clear H'; simp only [List.cons_append, List.nil_append] at H
          refine k_nil ?_
          refine t_on trivial ?_
          refine t_up1 10 (by kernel_rfl) ?_
          refine up_mk rfl ?_
          refine s_st (u := .slice _ _ _) H 4 rfl rfl rfl rfl rfl rfl sz52 ?_
          intro _ H'; simp only [List.set_cons_zero, List.set_cons_succ, List.take_succ_cons, List.take_zero, List.drop_succ_cons, List.drop_zero, List.cons_append, List.nil_append, List.append_nil, List.length_cons, List.length_nil, Nat.reduceAdd] at H'; clear H; have H := H'; clear H'
          refine k_nil ?_
          refine t_on trivial ?_
          refine t_take 11 rfl (by kernel_rfl) (by kernel_rfl) (by kernel_rfl) rfl (fun _ _ _ _ h => nomatch h.1) rfl (fun _ hS => r_fa0 rfl fo55_3) trivial ?_
          refine t_up1 12 (by kernel_rfl) ?_
          refine up_mk rfl ?_
          refine s_st (u := .slice _ _ _) H 4 rfl rfl rfl rfl rfl rfl sz53 ?_
          intro _ H'; simp only [List.set_cons_zero, List.set_cons_succ, List.take_succ_cons, List.take_zero, List.drop_succ_cons, List.drop_zero, List.cons_append, List.nil_append, List.append_nil, List.length_cons, List.length_nil, Nat.reduceAdd] at H'; clear H; have H := H'; clear H'
          refine k_nil ?_
          refine t_on trivial ?_
          refine t_take 13 rfl (by kernel_rfl) (by kernel_rfl) (by kernel_rfl) rfl (fun _ _ _ _ h => nomatch h.1) rfl (fun _ hS => r_fa0 rfl fo55_4) trivial ?_
          refine t_up1 14 (by kernel_rfl) ?_
          refine up_mk rfl ?_
          refine s_st (u := .slice _ _ _) H 4 rfl rfl rfl rfl rfl rfl sz53 ?_
          intro _ H'; simp only [List.set_cons_zero, List.set_cons_succ, List.take_succ_cons, List.take_zero, List.drop_succ_cons, List.drop_zero, List.cons_append, List.nil_append, List.append_nil, List.length_cons, List.length_nil, Nat.reduceAdd] at H'; clear H; have H := H'; clear H'
          refine k_nil ?_
          refine t_on trivial ?_
          refine t_done (by kernel_rfl) ?_
          refine k_met ?_
          exact ⟨_, _, _, _, _, _, _, _, _, hb1, hb2, hb3, rfl, rfl, H⟩
      · refine up_mk rfl ?_
        refine s_run rfl rfl (r_lo H 1 rfl rfl rfl ag53) ?_
        refine k_nil ?_
        refine t_on trivial ?_
        refine t_up1 1 (by kernel_rfl) ?_
        refine up_mk rfl ?_
        refine s_run rfl rfl (r_lo H 1 rfl rfl rfl ag52) ?_
        refine k_nil ?_
        refine t_on trivial ?_
        refine t_up1 2 (by kernel_rfl) ?_
        refine up_mk rfl ?_
        refine s_call rfl (rLines A1 m _ d.last _ (hr.last.nilF.later H.only (by simp)) (by have := hok.hl; omega) hm) (ca111 rfl) ?_
        rintro e W1 ⟨B1, b1, c1', rfl, hb1, H'⟩
        refine ⟨_, rfl, ?_⟩
        have H := H.more H'; clear H'; simp only [List.cons_append, List.nil_append] at H
        refine k_nil ?_
        refine t_on trivial ?_
        refine t_take 9 rfl (by kernel_rfl) (by kernel_rfl) (by kernel_rfl) rfl (fun _ _ _ _ h => nomatch h.1) rfl (fun _ hS => r_fa0 rfl fo55_1) trivial ?_
        refine t_up1 5 (by kernel_rfl) ?_
        refine up_mk rfl ?_
        refine s_call rfl (rFlags A3 m _ d.dirty _ (hr.dirty.nilF.later H.only (by simp)) (by have := hok.hd; omega) hm) (ca112 rfl) ?_
        rintro e W1 ⟨B2, b2, c2', rfl, hb2, H'⟩
        refine ⟨_, rfl, ?_⟩
        have H := H.more H'; clear H'; simp only [List.cons_append, List.nil_append] at H
        refine k_nil ?_
        refine t_on trivial ?_
        refine t_up1 8 (by kernel_rfl) ?_
        refine up_mk rfl ?_
        refine s_call rfl (rFlags A4 m _ d.pend _ (hr.pend.nilF.later H.only (by simp)) (by have := hok.hp; omega) hm) (ca112 rfl) ?_
        rintro e W1 ⟨B3, b3, c3', rfl, hb3, H'⟩
        refine ⟨_, rfl, ?_⟩
        have H := H.more H'; clear H'; simp only [List.cons_append, List.nil_append] at H
        refine k_nil ?_
        refine t_on trivial ?_
        refine t_up1 10 (by kernel_rfl) ?_
        refine up_mk rfl ?_
        refine s_st (u := .slice _ _ _) H 4 rfl rfl rfl rfl rfl rfl sz52 ?_
        intro _ H'; simp only [List.set_cons_zero, List.set_cons_succ, List.take_succ_cons, List.take_zero, List.drop_succ_cons, List.drop_zero, List.cons_append, List.nil_append, List.append_nil, List.length_cons, List.length_nil, Nat.reduceAdd] at H'; clear H; have H := H'; clear H'
        refine k_nil ?_
        refine t_on trivial ?_
        refine t_take 11 rfl (by kernel_rfl) (by kernel_rfl) (by kernel_rfl) rfl (fun _ _ _ _ h => nomatch h.1) rfl (fun _ hS => r_fa0 rfl fo55_3) trivial ?_
        refine t_up1 12 (by kernel_rfl) ?_
        refine up_mk rfl ?_
        refine s_st (u := .slice _ _ _) H 4 rfl rfl rfl rfl rfl rfl sz53 ?_
        intro _ H'; simp only [List.set_cons_zero, List.set_cons_succ, List.take_succ_cons, List.take_zero, List.drop_succ_cons, List.drop_zero, List.cons_append, List.nil_append, List.append_nil, List.length_cons, List.length_nil, Nat.reduceAdd] at H'; clear H; have H := H'; clear H'
        refine k_nil ?_
        refine t_on trivial ?_
        refine t_take 13 rfl (by kernel_rfl) (by kernel_rfl) (by kernel_rfl) rfl (fun _ _ _ _ h => nomatch h.1) rfl (fun _ hS => r_fa0 rfl fo55_4) trivial ?_
        refine t_up1 14 (by kernel_rfl) ?_
        refine up_mk rfl ?_
        refine s_st (u := .slice _ _ _) H 4 rfl rfl rfl rfl rfl rfl sz53 ?_
        intro _ H'; simp only [List.set_cons_zero, List.set_cons_succ, List.take_succ_cons, List.take_zero, List.drop_succ_cons, List.drop_zero, List.cons_append, List.nil_append, List.append_nil, List.length_cons, List.length_nil, Nat.reduceAdd] at H'; clear H; have H := H'; clear H'
        refine k_nil ?_
        refine t_on trivial ?_
        refine t_done (by kernel_rfl) ?_
        refine k_met ?_
        exact ⟨_, _, _, _, _, _, _, _, _, hb1, hb2, hb3, rfl, rfl, H⟩
  clear H
  rintro f' W ⟨B1, b1, c1', B2, b2, c2', B3, b3, c3', hb1, hb2, hb3, h1, h2, H⟩
  obtain ⟨f', rfl⟩ := live2 h1 h2
  clear h1 h2
  refine c_norm ?_
  refine k_seq ?_
  refine k_seq ?_
  refine k_rg ?_
  refine s_run rfl rfl (r_as (v := .int _ _) rfl) ?_
  refine k_nil ?_
  refine c_norm ?_
  refine k_b ?_
  refine k_loop (fun q f W => ∃ (k : Nat), k ≤ m ∧ q = m - k ∧ f 1 = ptr p1 ∧ f 2 = ptr p2 ∧ f 5 = .int .i64 k ∧ Heap w [] [vec Value.bool b3 (Nv.fenceTo (Nv.stepped d) k).pend 4, vec Value.bool b2 (Nv.fenceTo (Nv.stepped d) k).dirty 4, vec (Value.int .u64) b1 (Nv.fenceTo (Nv.stepped d) k).last 124, blk p2 [.slice none 0 0, .slice none 0 0, .slice none 0 0, .slice none 0 0, .slice none 0 0, .int .i64 0, .int .i64 0, .bool false] 55, blk p1 [.slice A0 m c0, .slice B1 m c1', .slice A2 m c2, .slice B2 m c2', .slice B3 m c3', .int .i64 (Nv.stepped d).steps, .int .i64 rf, .bool (Nv.stepped d).dead] 55] W) m ⟨0, by omega, rfl, rfl, rfl, rfl, H⟩ ?_
  clear H
  rintro q f W ⟨k, hk, rfl, h1, h2, h5, H⟩
  obtain ⟨f, rfl⟩ := live3 h1 h2 h5
  clear h1 h2 h5
  have hok := ho1.fenceTo k hk
  obtain ⟨g1, g2, g3, g4, g5, g6⟩ := Nv.fenceTo_same (Nv.stepped d) k
  by_cases hlt : k < m
  · obtain rfl := hb1 (by omega)
    obtain rfl := hb2 (by omega)
    obtain rfl := hb3 (by omega)
    have e : Nv.fenceTo (Nv.stepped d) (k + 1) = Nv.fenceLine (Nv.fenceTo (Nv.stepped d) k) k := rfl
    generalize Nv.fenceTo (Nv.stepped d) k = x at hok H e g1 g2 g3 g4 g5 g6
    have hl := hok.hl
    have hc := hok.hc
    have hf := hok.hf
    have hd := hok.hd
    have hp := hok.hp
    by_cases hv : x.pend.getD k false = true
    · have hv' : x.pend[k]? = some true := by rw [getE (by omega)]; exact congrArg some hv
      have er : Nv.fenceLine x k = { x with last := Nv.setPart x.last k (Nv.part x.fl k), pend := x.pend.set k false, dirty := x.dirty.set k (!Nv.same (Nv.part x.fl k) (Nv.part x.cache k)) } := by rw [Nv.fenceLine, if_pos hv]
      have es : Nv.setPart x.last k (Nv.part x.fl k) = x.last.take (8 * k) ++ (Nv.part x.fl k ++ x.last.drop (8 * k + 8)) := by simp [Nv.setPart]
      obtain ⟨bw, ow, ew, _, hrw⟩ := hr.wait (show d.fl.length ≠ 0 by have : d.fl = x.fl := g1.symm; rw [this]; omega)
      obtain rfl : A2 = some ⟨bw, ow, none⟩ := ew
      obtain ⟨bn, on, en, _, hrn⟩ := hr.now (show d.cache.length ≠ 0 by have : d.cache = x.cache := g2.symm; rw [this]; omega)
      obtain rfl : A0 = some ⟨bn, on, none⟩ := en
      have hrw2 : Reads (Value.int .u64) w bw ow x.fl := by rw [g1]; exact hrw
      have hrn2 : Reads (Value.int .u64) w bn on x.cache := by rw [g2]; exact hrn
      have hpw := reads_part (m := m) (i := k) hrw2 hf hlt
      have hpn := reads_part (m := m) (i := k) hrn2 hc hlt
      refine k_seq ?_
      refine k_seq ?_
      refine k_rg ?_
      refine s_run rfl rfl (r_mv (v := .int _ _) rfl) ?_
      refine s_run rfl rfl (r_fa0 rfl fo55_0) ?_
      refine s_run rfl rfl (r_lo H 4 rfl rfl rfl ag52) ?_
      refine s_run rfl rfl (r_len rfl Try.underlying52) ?_
      refine s_run rfl rfl (r_lssT rfl rfl (by omega)) ?_
      refine s_run rfl rfl (r_mv (v := .bool _) rfl) ?_
      refine s_run rfl (g_on 31 (by kernel_rfl) rfl) (r_mv (v := .int _ _) rfl) ?_
      refine s_run rfl (g_on 31 (by kernel_rfl) rfl) (r_fa0 rfl fo55_4) ?_
      refine s_run rfl (g_on 31 (by kernel_rfl) rfl) (r_lo H 4 rfl rfl rfl ag53) ?_
      refine s_run rfl (g_on 31 (by kernel_rfl) rfl) (r_len rfl Try.underlying53) ?_
      refine s_run rfl (g_on 31 (by kernel_rfl) rfl) (r_lssT rfl rfl (by omega)) ?_
      refine s_run rfl rfl (r_pkT (v := .bool _) rfl rfl) ?_
      refine s_run rfl rfl (r_mv (v := .bool _) rfl) ?_
      refine s_run rfl (g_on 38 (by kernel_rfl) rfl) (r_mv (v := .int _ _) rfl) ?_
      refine s_run rfl (g_on 38 (by kernel_rfl) rfl) (r_fa0 rfl fo55_1) ?_
      refine s_run rfl (g_on 38 (by kernel_rfl) rfl) (r_lo H 4 rfl rfl rfl ag52) ?_
      refine s_run rfl (g_on 38 (by kernel_rfl) rfl) (r_len rfl Try.underlying52) ?_
      refine s_run rfl (g_on 38 (by kernel_rfl) rfl) (r_lssT rfl rfl (by omega)) ?_
      refine s_run rfl rfl (r_pkT (v := .bool _) rfl rfl) ?_
      refine s_run rfl rfl (r_mv (v := .bool _) rfl) ?_
      refine s_run rfl (g_on 45 (by kernel_rfl) rfl) (r_mv (v := .int _ _) rfl) ?_
      refine s_run rfl (g_on 45 (by kernel_rfl) rfl) (r_fa0 rfl fo55_2) ?_
      refine s_run rfl (g_on 45 (by kernel_rfl) rfl) (r_lo H 4 rfl rfl rfl ag52) ?_
      refine s_run rfl (g_on 45 (by kernel_rfl) rfl) (r_len rfl Try.underlying52) ?_
      refine s_run rfl (g_on 45 (by kernel_rfl) rfl) (r_lssT rfl rfl (by omega)) ?_
      refine s_run rfl rfl (r_pkT (v := .bool _) rfl rfl) ?_
      refine s_run rfl rfl (r_mv (v := .bool _) rfl) ?_
      refine s_run rfl (g_on 52 (by kernel_rfl) rfl) (r_mv (v := .int _ _) rfl) ?_
      refine s_run rfl (g_on 52 (by kernel_rfl) rfl) (r_fa0 rfl fo55_3) ?_
      refine s_run rfl (g_on 52 (by kernel_rfl) rfl) (r_lo H 4 rfl rfl rfl ag53) ?_
      refine s_run rfl (g_on 52 (by kernel_rfl) rfl) (r_len rfl Try.underlying53) ?_
      refine s_run rfl (g_on 52 (by kernel_rfl) rfl) (r_lssT rfl rfl (by omega)) ?_
      refine s_run rfl rfl (r_pkT (v := .bool _) rfl rfl) ?_
      refine k_nil ?_
      refine c_norm ?_
      refine k_t rfl ?_
      refine k_skip ?_
      refine c_norm ?_
      refine k_seq ?_
      refine k_b ?_
      refine k_seq ?_
      refine k_rg ?_
      refine s_run rfl rfl (r_fa0 rfl fo55_4) ?_
      refine s_run rfl rfl (r_lo H 4 rfl rfl rfl ag53) ?_
      refine s_run rfl rfl (r_mv (v := .int _ _) rfl) ?_
      refine s_run rfl rfl (r_ix1 rfl rfl rfl (by omega) Try.underlying53 sz4) ?_
      refine s_run rfl rfl (r_lv H 0 rfl rfl (by assumption) ag4) ?_
      refine k_nil ?_
      refine c_norm ?_
      refine k_t rfl ?_
      refine k_seq ?_
      refine k_qt 9 mixed (by kernel_rfl) H rfl rfl ?_
      refine q_run rfl rfl (fun _ H => r_fa0 rfl fo55_1) ?_
      refine q_run rfl rfl (fun _ H => r_lo H 4 rfl rfl rfl ag52) ?_
      refine q_run rfl rfl (fun _ H => r_mv (v := .int _ _) rfl) ?_
      refine q_run rfl rfl (fun _ H => r_fa0 rfl fo55_2) ?_
      refine q_run rfl rfl (fun _ H => r_lo H 4 rfl rfl rfl ag52) ?_
      refine q_run rfl rfl (fun _ H => r_mv (v := .int _ _) rfl) ?_
      refine q_run rfl rfl (fun _ H => r_ix rfl rfl rfl (by omega) Try.underlying52 sz124) ?_
      refine q_run rfl rfl (fun _ H => r_lA (zs := Nv.part x.fl k) (hpw.later H.only (by simp)) rfl (Nv.length_part (by omega)) ag124 sz124) ?_
      refine q_run rfl rfl (fun _ H => r_ix0 rfl rfl rfl (by omega) Try.underlying52 sz124) ?_
      refine q_nil ?_
      intro _ H'; clear H; have H := H'; clear H'
      refine s_svA (zs := Nv.part x.fl k) H 2 rfl rfl rfl rfl (Nv.length_part (by omega)) (by omega) (fun _ => rfl) sz124 ?_
      intro _ H'; simp only [List.set_cons_zero, List.set_cons_succ, List.take_succ_cons, List.take_zero, List.drop_succ_cons, List.drop_zero, List.cons_append, List.nil_append, List.append_nil, List.length_cons, List.length_nil, Nat.reduceAdd] at H'; clear H; have H := H'; clear H'
      refine k_nil ?_
      refine c_norm ?_
      refine k_seq ?_
      refine k_rg ?_
      refine s_run rfl rfl (r_fa0 rfl fo55_4) ?_
      refine s_run rfl rfl (r_lo H 4 rfl rfl rfl ag53) ?_
      refine s_run rfl rfl (r_mv (v := .int _ _) rfl) ?_
      refine s_run rfl rfl (r_ix1 rfl rfl rfl (by omega) Try.underlying53 sz4) ?_
      refine s_sv (u := .bool _) H 0 rfl rfl rfl rfl rfl (by omega) (fun _ => rfl) sz4 ?_
      intro _ H'; simp only [List.set_cons_zero, List.set_cons_succ, List.take_succ_cons, List.take_zero, List.drop_succ_cons, List.drop_zero, List.cons_append, List.nil_append, List.append_nil, List.length_cons, List.length_nil, Nat.reduceAdd] at H'; clear H; have H := H'; clear H'
      refine k_nil ?_
      refine c_norm ?_
      refine k_qt 15 mixed (by kernel_rfl) H rfl rfl ?_
      refine q_run rfl rfl (fun _ H => r_fa0 rfl fo55_3) ?_
      refine q_run rfl rfl (fun _ H => r_lo H 4 rfl rfl rfl ag53) ?_
      refine q_run rfl rfl (fun _ H => r_mv (v := .int _ _) rfl) ?_
      refine q_run rfl rfl (fun _ H => r_fa0 rfl fo55_0) ?_
      refine q_run rfl rfl (fun _ H => r_lo H 4 rfl rfl rfl ag52) ?_
      refine q_run rfl rfl (fun _ H => r_mv (v := .int _ _) rfl) ?_
      refine q_run rfl rfl (fun _ H => r_ix rfl rfl rfl (by omega) Try.underlying52 sz124) ?_
      refine q_run rfl rfl (fun _ H => r_lA (zs := Nv.part x.cache k) (hpn.later H.only (by simp)) rfl (Nv.length_part (by omega)) ag124 sz124) ?_
      refine q_run rfl rfl (fun _ H => r_fa0 rfl fo55_2) ?_
      refine q_run rfl rfl (fun _ H => r_lo H 4 rfl rfl rfl ag52) ?_
      refine q_run rfl rfl (fun _ H => r_mv (v := .int _ _) rfl) ?_
      refine q_run rfl rfl (fun _ H => r_ix rfl rfl rfl (by omega) Try.underlying52 sz124) ?_
      refine q_run rfl rfl (fun _ H => r_lA (zs := Nv.part x.fl k) (hpw.later H.only (by simp)) rfl (Nv.length_part (by omega)) ag124 sz124) ?_
      refine q_run rfl rfl (fun _ H => r_arrB (q := !Nv.same (Nv.part x.cache k) (Nv.part x.fl k)) rfl rfl (Nv.length_part (by omega)) (Nv.length_part (by omega)) Try.underlying124 Try.underlying22 ⟨_, _, _, inf22⟩ (by kernel_rfl) (by kernel_rfl) rfl) ?_
      refine q_run rfl rfl (fun _ H => r_ix1 rfl rfl rfl (by omega) Try.underlying53 sz4) ?_
      refine q_nil ?_
      intro _ H'; clear H; have H := H'; clear H'
      refine s_sv (u := .bool _) H 1 rfl rfl rfl rfl rfl (by omega) (fun _ => rfl) sz4 ?_
      intro _ H'; simp only [List.set_cons_zero, List.set_cons_succ, List.take_succ_cons, List.take_zero, List.drop_succ_cons, List.drop_zero, List.cons_append, List.nil_append, List.append_nil, List.length_cons, List.length_nil, Nat.reduceAdd] at H'; clear H; have H := H'; clear H'
      refine k_nil ?_
      refine b_norm ?_
      refine c_norm ?_
      refine k_rg ?_
      refine s_run rfl rfl (r_mv (v := .int _ _) rfl) ?_
      refine s_run rfl rfl (r_add rfl rfl (wI (by omega))) ?_
      refine s_run rfl rfl (r_as (v := .int _ _) rfl) ?_
      refine k_nil ?_
      refine c_round ?_
      have e1 : k * 8 = 8 * k := by omega
      rw [e1, ← es, Nv.same_comm] at H
      refine ⟨_, _, ?_, rfl, k + 1, by omega, rfl, rfl, rfl, rfl, ?_⟩
      · omega
      · rw [e, er]; exact H
    · have hv' : x.pend[k]? = some false := by rw [getE (by omega)]; exact congrArg some (by simpa using hv)
      have er : Nv.fenceLine x k = x := by rw [Nv.fenceLine, if_neg hv]
      refine k_seq ?_
      refine k_seq ?_
      refine k_rg ?_
      refine s_run rfl rfl (r_mv (v := .int _ _) rfl) ?_
      refine s_run rfl rfl (r_fa0 rfl fo55_0) ?_
      refine s_run rfl rfl (r_lo H 4 rfl rfl rfl ag52) ?_
      refine s_run rfl rfl (r_len rfl Try.underlying52) ?_
      refine s_run rfl rfl (r_lssT rfl rfl (by omega)) ?_
      refine s_run rfl rfl (r_mv (v := .bool _) rfl) ?_
      refine s_run rfl (g_on 31 (by kernel_rfl) rfl) (r_mv (v := .int _ _) rfl) ?_
      refine s_run rfl (g_on 31 (by kernel_rfl) rfl) (r_fa0 rfl fo55_4) ?_
      refine s_run rfl (g_on 31 (by kernel_rfl) rfl) (r_lo H 4 rfl rfl rfl ag53) ?_
      refine s_run rfl (g_on 31 (by kernel_rfl) rfl) (r_len rfl Try.underlying53) ?_
      refine s_run rfl (g_on 31 (by kernel_rfl) rfl) (r_lssT rfl rfl (by omega)) ?_
      refine s_run rfl rfl (r_pkT (v := .bool _) rfl rfl) ?_
      refine s_run rfl rfl (r_mv (v := .bool _) rfl) ?_
      refine s_run rfl (g_on 38 (by kernel_rfl) rfl) (r_mv (v := .int _ _) rfl) ?_
      refine s_run rfl (g_on 38 (by kernel_rfl) rfl) (r_fa0 rfl fo55_1) ?_
      refine s_run rfl (g_on 38 (by kernel_rfl) rfl) (r_lo H 4 rfl rfl rfl ag52) ?_
      refine s_run rfl (g_on 38 (by kernel_rfl) rfl) (r_len rfl Try.underlying52) ?_
      refine s_run rfl (g_on 38 (by kernel_rfl) rfl) (r_lssT rfl rfl (by omega)) ?_
      refine s_run rfl rfl (r_pkT (v := .bool _) rfl rfl) ?_
      refine s_run rfl rfl (r_mv (v := .bool _) rfl) ?_
      refine s_run rfl (g_on 45 (by kernel_rfl) rfl) (r_mv (v := .int _ _) rfl) ?_
      refine s_run rfl (g_on 45 (by kernel_rfl) rfl) (r_fa0 rfl fo55_2) ?_
      refine s_run rfl (g_on 45 (by kernel_rfl) rfl) (r_lo H 4 rfl rfl rfl ag52) ?_
      refine s_run rfl (g_on 45 (by kernel_rfl) rfl) (r_len rfl Try.underlying52) ?_
      refine s_run rfl (g_on 45 (by kernel_rfl) rfl) (r_lssT rfl rfl (by omega)) ?_
      refine s_run rfl rfl (r_pkT (v := .bool _) rfl rfl) ?_
      refine s_run rfl rfl (r_mv (v := .bool _) rfl) ?_
      refine s_run rfl (g_on 52 (by kernel_rfl) rfl) (r_mv (v := .int _ _) rfl) ?_
      refine s_run rfl (g_on 52 (by kernel_rfl) rfl) (r_fa0 rfl fo55_3) ?_
      refine s_run rfl (g_on 52 (by kernel_rfl) rfl) (r_lo H 4 rfl rfl rfl ag53) ?_
      refine s_run rfl (g_on 52 (by kernel_rfl) rfl) (r_len rfl Try.underlying53) ?_
      refine s_run rfl (g_on 52 (by kernel_rfl) rfl) (r_lssT rfl rfl (by omega)) ?_
      refine s_run rfl rfl (r_pkT (v := .bool _) rfl rfl) ?_
      refine k_nil ?_
      refine c_norm ?_
      refine k_t rfl ?_
      refine k_skip ?_
      refine c_norm ?_
      refine k_seq ?_
      refine k_b ?_
      refine k_seq ?_
      refine k_rg ?_
      refine s_run rfl rfl (r_fa0 rfl fo55_4) ?_
      refine s_run rfl rfl (r_lo H 4 rfl rfl rfl ag53) ?_
      refine s_run rfl rfl (r_mv (v := .int _ _) rfl) ?_
      refine s_run rfl rfl (r_ix1 rfl rfl rfl (by omega) Try.underlying53 sz4) ?_
      refine s_run rfl rfl (r_lv H 0 rfl rfl (by assumption) ag4) ?_
      refine k_nil ?_
      refine c_norm ?_
      refine k_f rfl ?_
      refine k_skip ?_
      refine b_norm ?_
      refine c_norm ?_
      refine k_rg ?_
      refine s_run rfl rfl (r_mv (v := .int _ _) rfl) ?_
      refine s_run rfl rfl (r_add rfl rfl (wI (by omega))) ?_
      refine s_run rfl rfl (r_as (v := .int _ _) rfl) ?_
      refine k_nil ?_
      refine c_round ?_
      refine ⟨_, _, ?_, rfl, k + 1, by omega, rfl, rfl, rfl, rfl, ?_⟩
      · omega
      · rw [e, er]; exact H
  · obtain rfl : k = m := by omega
    refine k_seq ?_
    refine k_seq ?_
    refine k_rg ?_
    refine s_run rfl rfl (r_mv (v := .int _ _) rfl) ?_
    refine s_run rfl rfl (r_fa0 rfl fo55_0) ?_
    refine s_run rfl rfl (r_lo H 4 rfl rfl rfl ag52) ?_
    refine s_run rfl rfl (r_len rfl Try.underlying52) ?_
    refine s_run rfl rfl (r_lssF rfl rfl (by omega)) ?_
    refine s_run rfl rfl (r_mv (v := .bool _) rfl) ?_
    refine s_off rfl (g_off 31 (by kernel_rfl) rfl rfl) ?_
    refine s_off rfl (g_off 31 (by kernel_rfl) rfl rfl) ?_
    refine s_off rfl (g_off 31 (by kernel_rfl) rfl rfl) ?_
    refine s_off rfl (g_off 31 (by kernel_rfl) rfl rfl) ?_
    refine s_off rfl (g_off 31 (by kernel_rfl) rfl rfl) ?_
    refine s_run rfl rfl (r_pkF (v := .bool _) rfl rfl) ?_
    refine s_run rfl rfl (r_mv (v := .bool _) rfl) ?_
    refine s_off rfl (g_off 38 (by kernel_rfl) rfl rfl) ?_
    refine s_off rfl (g_off 38 (by kernel_rfl) rfl rfl) ?_
    refine s_off rfl (g_off 38 (by kernel_rfl) rfl rfl) ?_
    refine s_off rfl (g_off 38 (by kernel_rfl) rfl rfl) ?_
    refine s_off rfl (g_off 38 (by kernel_rfl) rfl rfl) ?_
    refine s_run rfl rfl (r_pkF (v := .bool _) rfl rfl) ?_
    refine s_run rfl rfl (r_mv (v := .bool _) rfl) ?_
    refine s_off rfl (g_off 45 (by kernel_rfl) rfl rfl) ?_
    refine s_off rfl (g_off 45 (by kernel_rfl) rfl rfl) ?_
    refine s_off rfl (g_off 45 (by kernel_rfl) rfl rfl) ?_
    refine s_off rfl (g_off 45 (by kernel_rfl) rfl rfl) ?_
    refine s_off rfl (g_off 45 (by kernel_rfl) rfl rfl) ?_
    refine s_run rfl rfl (r_pkF (v := .bool _) rfl rfl) ?_
    refine s_run rfl rfl (r_mv (v := .bool _) rfl) ?_
    refine s_off rfl (g_off 52 (by kernel_rfl) rfl rfl) ?_
    refine s_off rfl (g_off 52 (by kernel_rfl) rfl rfl) ?_
    refine s_off rfl (g_off 52 (by kernel_rfl) rfl rfl) ?_
    refine s_off rfl (g_off 52 (by kernel_rfl) rfl rfl) ?_
    refine s_off rfl (g_off 52 (by kernel_rfl) rfl rfl) ?_
    refine s_run rfl rfl (r_pkF (v := .bool _) rfl rfl) ?_
    refine k_nil ?_
    refine c_norm ?_
    refine k_f rfl ?_
    refine k_exit ?_
    refine c_exit ?_
    refine c_exit ?_
    refine b_hit ?_
    refine c_norm ?_
    refine k_seq ?_
    refine k_rg ?_
    refine s_run rfl rfl (r_la H 4 rfl rfl rfl ag55 sz55) ?_
    refine s_sw H 3 rfl rfl rfl rfl rfl rfl rfl sz55 ?_
    intro _ H'; simp only [List.set_cons_zero, List.set_cons_succ, List.take_succ_cons, List.take_zero, List.drop_succ_cons, List.drop_zero, List.cons_append, List.nil_append, List.append_nil, List.length_cons, List.length_nil, Nat.reduceAdd] at H'; clear H; have H := H'; clear H'
    refine s_run rfl rfl (r_as (v := .int _ _) rfl) ?_
    refine k_nil ?_
    refine c_norm ?_
    refine k_ret ?_
    refine fx2r rfl (rv_a H 3 rfl rfl rfl ag55 sz55) (rv_t (v := .int _ _) rfl) ?_
    refine ⟨⟨A0, c0, B1, c1', A2, c2, B2, c2', B3, c3', rf⟩, ?_, H.clear, ⟨?_, ?_, ?_, ?_, ?_, ?_, hok⟩⟩
    · simp only [refE, g3, g6]
    · rw [g2]; exact hr.now.later H.only (by simp)
    · exact H.sees 2 rfl hF hb1 (fun h => by have := hok.hl; omega)
    · rw [g1]; exact hr.wait.later H.only (by simp)
    · exact H.sees 1 rfl hF hb2 (fun h => by have := hok.hd; omega)
    · exact H.sees 0 rfl hF hb3 (fun h => by have := hok.hp; omega)
    · unfold fuseRel; rw [g4, g5]; exact hf'
end Go.Proofs.Ytmekhdclnhhhbaa
