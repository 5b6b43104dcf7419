/- The document's Get, Flush, Evict. -/
import Derived.Test.YtmekhdclnhhhbaaRef2
namespace Go.Proofs.Ytmekhdclnhhhbaa
open Go.RowKit
set_option linter.unusedSimpArgs false
set_option linter.unusedVariables false
theorem rGet (A : Option Addr) (m c : Nat) (a : Int) (zs : List Int) (w : World) (hz : Sees (Value.int .u64) w [] A zs) (hl : zs.length = 8 * m) (hm : m ≤ 100000) :
    Calls Try.prog 92 [.slice A m c, .int .i64 a].toArray w fun e w' => e = .returned (.int .u64 (Nv.get zs a)) ∧ Only [] w w' := by
  have H := Heap.nil w
  unfold Nv.get
  by_cases hin : 0 ≤ a ∧ a < (zs.length : Int)
  · rw [if_pos hin]
    obtain ⟨i, rfl⟩ : ∃ i : Nat, a = (i : Int) := ⟨a.toNat, by omega⟩
    rw [Int.toNat_natCast]
    obtain ⟨b, o, rfl, _, hr⟩ := hz (by omega)
    have hc := hr i _ (getE (by omega))
    have e1 : o + i / 8 * 8 + i % 8 = o + i := by omega
    refine k_in (N := 22) Try.func92 rfl rfl rfl ?_
    refine k_seq ?_
    refine k_rg ?_
    refine s_run rfl rfl (r_as (v := .int _ _) rfl) ?_
    refine k_nil ?_
    refine c_norm ?_
    refine k_seq ?_
    refine k_seq ?_
    refine k_rg ?_
    refine s_run rfl rfl (r_mv (v := .int _ _) rfl) ?_
    refine s_run rfl rfl (r_lssF rfl rfl (by omega)) ?_
    refine s_run rfl rfl (r_mv (v := .bool _) rfl) ?_
    refine s_run rfl (g_on 7 (by kernel_rfl) rfl) (r_mv (v := .int _ _) rfl) ?_
    refine s_run rfl (g_on 7 (by kernel_rfl) rfl) (r_mv (v := .slice _ _ _) rfl) ?_
    refine s_run rfl (g_on 7 (by kernel_rfl) rfl) (r_len rfl Try.underlying52) ?_
    refine s_run rfl (g_on 7 (by kernel_rfl) rfl) (r_mul rfl rfl (wI (by omega))) ?_
    refine s_run rfl (g_on 7 (by kernel_rfl) rfl) (r_geqF rfl rfl (by omega)) ?_
    refine s_run rfl rfl (r_pkF (v := .bool _) rfl rfl) ?_
    refine k_nil ?_
    refine c_norm ?_
    refine k_f rfl ?_
    refine k_skip ?_
    refine c_norm ?_
    refine k_seq ?_
    refine k_rg ?_
    refine s_run rfl rfl (r_mv (v := .slice _ _ _) rfl) ?_
    refine s_run rfl rfl (r_mv (v := .int _ _) rfl) ?_
    refine s_run rfl rfl (r_quo rfl rfl (by omega) (wI (by omega))) ?_
    refine s_run rfl rfl (r_mv (v := .int _ _) rfl) ?_
    refine s_run rfl rfl (r_rem rfl rfl (by omega)) ?_
    refine s_run rfl rfl (r_ix (i := i / 8) rfl rfl (by omega) (by omega) Try.underlying52 sz124) ?_
    refine s_run rfl rfl (r_ia1 (i := i % 8) rfl rfl (by omega) (by omega) Try.underlying124 sz22) ?_
    refine s_run rfl rfl (r_lr H (i := o + i) (by rw [← e1]; rfl) hc (by simp) ag22) ?_
    refine s_run rfl rfl (r_as (v := .int _ _) rfl) ?_
    refine k_nil ?_
    refine c_norm ?_
    refine k_ret ?_
    refine fin1r (v := .int _ _) rfl rfl ?_
    exact ⟨rfl, H.only⟩
  · rw [if_neg hin]
    by_cases h1 : a < 0
    · refine k_in (N := 22) Try.func92 rfl rfl rfl ?_
      refine k_seq ?_
      refine k_rg ?_
      refine s_run rfl rfl (r_as (v := .int _ _) rfl) ?_
      refine k_nil ?_
      refine c_norm ?_
      refine k_seq ?_
      refine k_seq ?_
      refine k_rg ?_
      refine s_run rfl rfl (r_mv (v := .int _ _) rfl) ?_
      refine s_run rfl rfl (r_lssT rfl rfl (by omega)) ?_
      refine s_run rfl rfl (r_mv (v := .bool _) rfl) ?_
      refine s_off rfl (g_off 7 (by kernel_rfl) rfl rfl) ?_
      refine s_off rfl (g_off 7 (by kernel_rfl) rfl rfl) ?_
      refine s_off rfl (g_off 7 (by kernel_rfl) rfl rfl) ?_
      refine s_off rfl (g_off 7 (by kernel_rfl) rfl rfl) ?_
      refine s_off rfl (g_off 7 (by kernel_rfl) rfl rfl) ?_
      refine s_run rfl rfl (r_pkT (v := .bool _) rfl rfl) ?_
      refine k_nil ?_
      refine c_norm ?_
      refine k_t rfl ?_
      refine k_seq ?_
      refine k_rg ?_
      refine s_run rfl rfl (r_as (v := .int _ _) rfl) ?_
      refine k_nil ?_
      refine c_norm ?_
      refine k_ret ?_
      refine c_ret ?_
      refine fin1r (v := .int _ _) rfl rfl ?_
      exact ⟨rfl, H.only⟩
    · refine k_in (N := 22) Try.func92 rfl rfl rfl ?_
      refine k_seq ?_
      refine k_rg ?_
      refine s_run rfl rfl (r_as (v := .int _ _) rfl) ?_
      refine k_nil ?_
      refine c_norm ?_
      refine k_seq ?_
      refine k_seq ?_
      refine k_rg ?_
      refine s_run rfl rfl (r_mv (v := .int _ _) rfl) ?_
      refine s_run rfl rfl (r_lssF rfl rfl (by omega)) ?_
      refine s_run rfl rfl (r_mv (v := .bool _) rfl) ?_
      refine s_run rfl (g_on 7 (by kernel_rfl) rfl) (r_mv (v := .int _ _) rfl) ?_
      refine s_run rfl (g_on 7 (by kernel_rfl) rfl) (r_mv (v := .slice _ _ _) rfl) ?_
      refine s_run rfl (g_on 7 (by kernel_rfl) rfl) (r_len rfl Try.underlying52) ?_
      refine s_run rfl (g_on 7 (by kernel_rfl) rfl) (r_mul rfl rfl (wI (by omega))) ?_
      refine s_run rfl (g_on 7 (by kernel_rfl) rfl) (r_geqT rfl rfl (by omega)) ?_
      refine s_run rfl rfl (r_pkF (v := .bool _) rfl rfl) ?_
      refine k_nil ?_
      refine c_norm ?_
      refine k_t rfl ?_
      refine k_seq ?_
      refine k_rg ?_
      refine s_run rfl rfl (r_as (v := .int _ _) rfl) ?_
      refine k_nil ?_
      refine c_norm ?_
      refine k_ret ?_
      refine c_ret ?_
      refine fin1r (v := .int _ _) rfl rfl ?_
      exact ⟨rfl, H.only⟩
theorem rFlush (s : RefS) (d : Nv.D) (m : Nat) (a : Int) (F : List Nat) (w : World) (hr : RefOk w F s d m) (hF : ∀ i ∈ F, i < w.heap.size) (hm : m ≤ 100000) :
    Calls Try.prog 72 [.agg (refCells s d m).toArray, .int .i64 a].toArray w fun e w' => ∃ s', e = .returned (.tuple #[.agg (refCells s' (Nv.flush d m a).1 m).toArray, .int .i64 (Nv.flush d m a).2]) ∧ Heap w [] [] w' ∧ RefOk w' F s' (Nv.flush d m a).1 m := by
  have H := Heap.nil w
  obtain ⟨A0, c0, A1, c1, A2, c2, A3, c3, A4, c4, rf0⟩ := s
  have hok := hr.ok
  have hc := hok.hc
  have hf := hok.hf
  have hdd := hok.hd
  have hpp := hok.hp
  by_cases hin : 0 ≤ a ∧ a < (m : Int)
  · have hS := rStep ⟨A0, c0, A1, c1, A2, c2, A3, c3, A4, c4, rf0⟩ d m
    by_cases hs : Nv.stops d = true
    · have er : Nv.flush d m a = (Nv.killed d, 3) := by rw [Nv.flush, if_pos hin, if_pos hs]
      rw [er]
      simp only [hs, if_true, Bool.not_true] at hS
      rw [refE]
      refine k_in (N := 52) Try.func72 rfl rfl rfl ?_
      refine k_seq ?_
      refine k_rg ?_
      refine s_box H rfl rfl ?_
      intro p2 _ H'; clear H; have H := H'; clear H'
      refine s_al H rfl inf55 ?_
      intro p4 _ H'; clear H; have H := H'; clear H'
      refine s_run rfl rfl (r_as (v := .int _ _) rfl) ?_
      refine k_nil ?_
      refine c_norm ?_
      refine k_seq ?_
      refine k_seq ?_
      refine k_rg ?_
      refine s_run rfl rfl (r_mv (v := .int _ _) rfl) ?_
      refine s_run rfl rfl (r_lssF rfl rfl (by omega)) ?_
      refine s_run rfl rfl (r_mv (v := .bool _) rfl) ?_
      refine s_run rfl (g_on 9 (by kernel_rfl) rfl) (r_mv (v := .int _ _) rfl) ?_
      refine s_run rfl (g_on 9 (by kernel_rfl) rfl) (r_fa0 rfl fo55_0) ?_
      refine s_run rfl (g_on 9 (by kernel_rfl) rfl) (r_lo H 1 rfl rfl rfl ag52) ?_
      refine s_run rfl (g_on 9 (by kernel_rfl) rfl) (r_len rfl Try.underlying52) ?_
      refine s_run rfl (g_on 9 (by kernel_rfl) rfl) (r_geqF rfl rfl (by omega)) ?_
      refine s_run rfl rfl (r_pkF (v := .bool _) rfl rfl) ?_
      refine k_nil ?_
      refine c_norm ?_
      refine k_f rfl ?_
      refine k_skip ?_
      refine c_norm ?_
      refine k_seq ?_
      refine k_rg ?_
      refine s_run rfl rfl (r_la H 1 rfl rfl rfl ag55 sz55) ?_
      refine s_call rfl (hS _ hr.fuse) (ca110 rfl) ?_
      rintro e W1 ⟨rf, rfl, H', hf'⟩
      refine ⟨_, rfl, ?_⟩
      have H := H.same H'; clear H'; simp only [refE]
      refine s_run rfl rfl (r_mv (v := .tuple _) rfl) ?_
      refine s_run rfl rfl (r_ext (v := .agg _) rfl rfl) ?_
      refine s_run rfl rfl (r_ext (v := .bool _) rfl rfl) ?_
      refine s_sw H 1 rfl rfl rfl rfl rfl rfl rfl sz55 ?_
      intro _ H'; simp only [List.set_cons_zero, List.set_cons_succ, List.take_succ_cons, List.take_zero, List.drop_succ_cons, List.drop_zero, List.cons_append, List.nil_append, List.append_nil, List.length_cons, List.length_nil, Nat.reduceAdd] at H'; clear H; have H := H'; clear H'
      refine s_run rfl rfl (r_as (v := .bool _) rfl) ?_
      refine k_nil ?_
      refine c_norm ?_
      refine k_seq ?_
      refine k_seq ?_
      refine k_rg ?_
      refine s_run rfl rfl (r_mv (v := .bool _) rfl) ?_
      refine s_run rfl rfl (r_notF rfl) ?_
      refine k_nil ?_
      refine c_norm ?_
      refine k_t rfl ?_
      refine k_seq ?_
      refine k_rg ?_
      refine s_run rfl rfl (r_la H 1 rfl rfl rfl ag55 sz55) ?_
      refine s_sw H 0 rfl rfl rfl rfl rfl rfl rfl sz55 ?_
      intro _ H'; simp only [List.set_cons_zero, List.set_cons_succ, List.take_succ_cons, List.take_zero, List.drop_succ_cons, List.drop_zero, List.cons_append, List.nil_append, List.append_nil, List.length_cons, List.length_nil, Nat.reduceAdd] at H'; clear H; have H := H'; clear H'
      refine s_run rfl rfl (r_as (v := .int _ _) rfl) ?_
      refine k_nil ?_
      refine c_norm ?_
      refine k_ret ?_
      refine c_ret ?_
      refine fx2r rfl (rv_a H 0 rfl rfl rfl ag55 sz55) (rv_t (v := .int _ _) rfl) ?_
      exact ⟨⟨A0, c0, A1, c1, A2, c2, A3, c3, A4, c4, rf⟩, rfl, H.clear, ⟨hr.now.later H.only (by simp), hr.last.later H.only (by simp), hr.wait.later H.only (by simp), hr.dirty.later H.only (by simp), hr.pend.later H.only (by simp), hf', hok.killed⟩⟩
    · have hs : Nv.stops d = false := by simpa using hs
      obtain ⟨i, rfl⟩ : ∃ i : Nat, a = (i : Int) := ⟨a.toNat, by omega⟩
      have er : Nv.flush d m i = (if d.dirty.getD i false = true then Nv.flushed (Nv.stepped d) i else Nv.stepped d, 0) := by rw [Nv.flush, if_pos hin, if_neg (by simp [hs]), Int.toNat_natCast]
      rw [er]
      simp only [hs, Bool.false_eq_true, if_false, Bool.not_false] at hS
      obtain ⟨bd, od, ed, _, hrd⟩ := hr.dirty (by omega)
      have hcd := hrd i _ (getE (by omega))
      obtain rfl : A3 = some ⟨bd, od, none⟩ := ed
      by_cases hdi : d.dirty.getD i false = true
      · rw [if_pos hdi]
        have hdi' : d.dirty.getD i default = true := hdi
        rw [hdi'] at hcd
        obtain ⟨bn, on, en, _, hrn⟩ := hr.now (by omega)
        obtain rfl : A0 = some ⟨bn, on, none⟩ := en
        rw [refE]
        simp only
        have hpart : Reads (Value.int .u64) w bn (on + i * 8) (Nv.part d.cache i) := by
          intro j z hz
          have hj : j < 8 := by have := (List.getElem?_eq_some_iff.1 hz).1; rw [Nv.length_part (by omega)] at this; omega
          unfold Nv.part at hz
          rw [List.getElem?_take_of_lt hj, List.getElem?_drop] at hz
          have := hrn _ _ hz
          rw [show on + i * 8 + j = on + (8 * i + j) from by omega]; exact this
        refine k_in (N := 52) Try.func72 rfl rfl rfl ?_
        refine k_seq ?_
        refine k_rg ?_
        refine s_box H rfl rfl ?_
        intro p2 _ H'; clear H; have H := H'; clear H'
        refine s_al H rfl inf55 ?_
        intro p4 _ H'; clear H; have H := H'; clear H'
        refine s_run rfl rfl (r_as (v := .int _ _) rfl) ?_
        refine k_nil ?_
        refine c_norm ?_
        refine k_seq ?_
        refine k_seq ?_
        refine k_rg ?_
        refine s_run rfl rfl (r_mv (v := .int _ _) rfl) ?_
        refine s_run rfl rfl (r_lssF rfl rfl (by omega)) ?_
        refine s_run rfl rfl (r_mv (v := .bool _) rfl) ?_
        refine s_run rfl (g_on 9 (by kernel_rfl) rfl) (r_mv (v := .int _ _) rfl) ?_
        refine s_run rfl (g_on 9 (by kernel_rfl) rfl) (r_fa0 rfl fo55_0) ?_
        refine s_run rfl (g_on 9 (by kernel_rfl) rfl) (r_lo H 1 rfl rfl rfl ag52) ?_
        refine s_run rfl (g_on 9 (by kernel_rfl) rfl) (r_len rfl Try.underlying52) ?_
        refine s_run rfl (g_on 9 (by kernel_rfl) rfl) (r_geqF rfl rfl (by omega)) ?_
        refine s_run rfl rfl (r_pkF (v := .bool _) rfl rfl) ?_
        refine k_nil ?_
        refine c_norm ?_
        refine k_f rfl ?_
        refine k_skip ?_
        refine c_norm ?_
        refine k_seq ?_
        refine k_rg ?_
        refine s_run rfl rfl (r_la H 1 rfl rfl rfl ag55 sz55) ?_
        refine s_call rfl (hS _ hr.fuse) (ca110 rfl) ?_
        rintro e W1 ⟨rf, rfl, H', hf'⟩
        refine ⟨_, rfl, ?_⟩
        have H := H.same H'; clear H'; simp only [refE, Nv.stepped]
        refine s_run rfl rfl (r_mv (v := .tuple _) rfl) ?_
        refine s_run rfl rfl (r_ext (v := .agg _) rfl rfl) ?_
        refine s_run rfl rfl (r_ext (v := .bool _) rfl rfl) ?_
        refine s_sw H 1 rfl rfl rfl rfl rfl rfl rfl sz55 ?_
        intro _ H'; simp only [List.set_cons_zero, List.set_cons_succ, List.take_succ_cons, List.take_zero, List.drop_succ_cons, List.drop_zero, List.cons_append, List.nil_append, List.append_nil, List.length_cons, List.length_nil, Nat.reduceAdd] at H'; clear H; have H := H'; clear H'
        refine s_run rfl rfl (r_as (v := .bool _) rfl) ?_
        refine k_nil ?_
        refine c_norm ?_
        refine k_seq ?_
        refine k_seq ?_
        refine k_rg ?_
        refine s_run rfl rfl (r_mv (v := .bool _) rfl) ?_
        refine s_run rfl rfl (r_notT rfl) ?_
        refine k_nil ?_
        refine c_norm ?_
        refine k_f rfl ?_
        refine k_skip ?_
        refine c_norm ?_
        refine k_seq ?_
        refine k_seq ?_
        refine k_rg ?_
        refine s_run rfl rfl (r_fa0 rfl fo55_3) ?_
        refine s_run rfl rfl (r_lo H 1 rfl rfl rfl ag53) ?_
        refine s_run rfl rfl (r_mv (v := .int _ _) rfl) ?_
        refine s_run rfl rfl (r_ix1o rfl rfl rfl (by omega) Try.underlying53 sz4) ?_
        refine s_run rfl rfl (r_lr H rfl hcd (by simp) ag4) ?_
        refine k_nil ?_
        refine c_norm ?_
        refine k_t rfl ?_
        refine k_seq ?_
        refine k_trF mixed ?_; have H' := H.drew; clear H; have H := H'; clear H'
        refine t_take 0 rfl (by kernel_rfl) (by kernel_rfl) (by kernel_rfl) rfl (fun _ _ _ _ h => h) rfl (fun _ hS => r_fa0 rfl fo55_2) trivial ?_
        refine t_take 3 rfl (by kernel_rfl) (by kernel_rfl) (by kernel_rfl) rfl (fun _ _ _ _ h => h) rfl (fun _ hS => r_fa0 rfl fo55_4) trivial ?_
        refine t_up2 1 4 (by kernel_rfl) ?_ ?_
        · refine up_mk rfl ?_
          refine s_run rfl rfl (r_lo H 1 rfl rfl rfl ag52) ?_
          refine k_nil ?_
          refine t_on trivial ?_
          refine t_up2 2 4 (by kernel_rfl) ?_ ?_
          · refine up_mk rfl ?_
            refine s_call rfl (rLines A2 m _ d.fl _ (hr.wait.nilF.later H.only (by simp)) (by omega) hm) (ca111 rfl) ?_
            rintro e W1 ⟨A1', b1, c1', rfl, hb1, H'⟩
            refine ⟨_, rfl, ?_⟩
            obtain rfl := hb1 (by omega); have H := H.more H'; clear H'
            refine k_nil ?_
            refine t_on trivial ?_
            refine t_up1 4 (by kernel_rfl) ?_
            refine up_mk rfl ?_
            refine s_run rfl rfl (r_lo H 2 rfl rfl rfl ag53) ?_
            refine k_nil ?_
            refine t_on trivial ?_
            refine t_take 6 rfl (by kernel_rfl) (by kernel_rfl) (by kernel_rfl) rfl (fun _ _ _ _ h => h) rfl (fun _ hS => r_fa0 rfl fo55_2) trivial ?_
            refine t_up1 5 (by kernel_rfl) ?_
            refine up_mk rfl ?_
            refine s_call rfl (rFlags A4 m _ d.pend _ (hr.pend.nilF.later H.only (by simp)) (by omega) hm) (ca112 rfl) ?_
            rintro e W1 ⟨A2', b2, c2', rfl, hb2, H'⟩
            refine ⟨_, rfl, ?_⟩
            obtain rfl := hb2 (by omega); have H := H.more H'; clear H'
            refine k_nil ?_
            refine t_on trivial ?_
            refine t_up1 7 (by kernel_rfl) ?_
            refine up_mk rfl ?_
            refine s_st (u := .slice _ _ _) H 3 rfl rfl rfl rfl rfl rfl sz52 ?_
            intro _ H'; simp only [List.set_cons_zero, List.set_cons_succ, List.take_succ_cons, List.take_zero, List.drop_succ_cons, List.drop_zero, List.cons_append, List.nil_append, List.append_nil, List.length_cons, List.length_nil, Nat.reduceAdd] at H'; clear H; have H := H'; clear H'
            refine k_nil ?_
            refine t_on trivial ?_
            refine t_take 8 rfl (by kernel_rfl) (by kernel_rfl) (by kernel_rfl) rfl (fun _ _ _ _ h => h) rfl (fun _ hS => r_fa0 rfl fo55_4) trivial ?_
            refine t_up1 9 (by kernel_rfl) ?_
            refine up_mk rfl ?_
            refine s_st (u := .slice _ _ _) H 3 rfl rfl rfl rfl rfl rfl sz53 ?_
            intro _ H'; simp only [List.set_cons_zero, List.set_cons_succ, List.take_succ_cons, List.take_zero, List.drop_succ_cons, List.drop_zero, List.cons_append, List.nil_append, List.append_nil, List.length_cons, List.length_nil, Nat.reduceAdd] at H'; clear H; have H := H'; clear H'
            refine k_nil ?_
            refine t_on trivial ?_
            refine t_done (by kernel_rfl) ?_
            refine c_norm ?_
            refine k_seq ?_
            refine k_qt 9 mixed (by kernel_rfl) H rfl rfl ?_
            refine q_run rfl rfl (fun _ H => r_fa0 rfl fo55_2) ?_
            refine q_run rfl rfl (fun _ H => r_lo H 3 rfl rfl rfl ag52) ?_
            refine q_run rfl rfl (fun _ H => r_mv (v := .int _ _) rfl) ?_
            refine q_run rfl rfl (fun _ H => r_fa0 rfl fo55_0) ?_
            refine q_run rfl rfl (fun _ H => r_lo H 3 rfl rfl rfl ag52) ?_
            refine q_run rfl rfl (fun _ H => r_mv (v := .int _ _) rfl) ?_
            refine q_run rfl rfl (fun _ H => r_ix rfl rfl rfl (by omega) Try.underlying52 sz124) ?_
            refine q_run rfl rfl (fun _ H => r_lA (zs := Nv.part d.cache i) (hpart.later H.only (by simp)) rfl (Nv.length_part (by omega)) ag124 sz124) ?_
            refine q_run rfl rfl (fun _ H => r_ix0 rfl rfl rfl (by omega) Try.underlying52 sz124) ?_
            refine q_nil ?_
            intro _ H'; clear H; have H := H'; clear H'
            refine s_svA (zs := Nv.part d.cache i) H 1 rfl rfl rfl rfl (Nv.length_part (by omega)) (by omega) (fun _ => rfl) sz124 ?_
            intro _ H'; simp only [List.set_cons_zero, List.set_cons_succ, List.take_succ_cons, List.take_zero, List.drop_succ_cons, List.drop_zero, List.cons_append, List.nil_append, List.append_nil, List.length_cons, List.length_nil, Nat.reduceAdd] at H'; clear H; have H := H'; clear H'
            refine k_nil ?_
            refine c_norm ?_
            refine k_rg ?_
            refine s_run rfl rfl (r_fa0 rfl fo55_4) ?_
            refine s_run rfl rfl (r_lo H 3 rfl rfl rfl ag53) ?_
            refine s_run rfl rfl (r_mv (v := .int _ _) rfl) ?_
            refine s_run rfl rfl (r_ix1 rfl rfl rfl (by omega) Try.underlying53 sz4) ?_
            refine s_sv (u := .bool _) H 0 rfl rfl rfl rfl rfl (by omega) (fun _ => rfl) sz4 ?_
            intro _ H'; simp only [List.set_cons_zero, List.set_cons_succ, List.take_succ_cons, List.take_zero, List.drop_succ_cons, List.drop_zero, List.cons_append, List.nil_append, List.append_nil, List.length_cons, List.length_nil, Nat.reduceAdd] at H'; clear H; have H := H'; clear H'
            refine k_nil ?_
            refine c_norm ?_
            refine k_seq ?_
            refine k_rg ?_
            refine s_run rfl rfl (r_la H 3 rfl rfl rfl ag55 sz55) ?_
            refine s_sw H 2 rfl rfl rfl rfl rfl rfl rfl sz55 ?_
            intro _ H'; simp only [List.set_cons_zero, List.set_cons_succ, List.take_succ_cons, List.take_zero, List.drop_succ_cons, List.drop_zero, List.cons_append, List.nil_append, List.append_nil, List.length_cons, List.length_nil, Nat.reduceAdd] at H'; clear H; have H := H'; clear H'
            refine s_run rfl rfl (r_as (v := .int _ _) rfl) ?_
            refine k_nil ?_
            refine c_norm ?_
            refine k_ret ?_
            refine fx2r rfl (rv_a H 2 rfl rfl rfl ag55 sz55) (rv_t (v := .int _ _) rfl) ?_
            have e1 : i * 8 = 8 * i := by omega
            rw [e1] at H
            have e2 : Nv.setPart d.fl i (Nv.part d.cache i) = d.fl.take (8 * i) ++ (Nv.part d.cache i ++ d.fl.drop (8 * i + 8)) := by simp [Nv.setPart]
            rw [← e2] at H
            refine ⟨⟨some ⟨bn, on, none⟩, c0, A1, c1, some ⟨b1, 0, none⟩, c1', some ⟨bd, od, none⟩, c3, some ⟨b2, 0, none⟩, c2', rf⟩, rfl, H.clear, ⟨?_, hr.last.later H.only (by simp), ?_, ?_, ?_, hf', hok.stepped.flushed (by omega)⟩⟩
            · exact hr.now.later H.only (by simp)
            · exact H.sees 1 rfl hF (m := 1) (fun _ => rfl) (fun _ => by simp)
            · exact hr.dirty.later H.only (by simp)
            · exact H.sees 0 rfl hF (m := 1) (fun _ => rfl) (fun _ => by simp)
          · refine up_mk rfl ?_
            refine s_run rfl rfl (r_lo H 1 rfl rfl rfl ag53) ?_
            refine k_nil ?_
            refine t_on trivial ?_
            refine t_up1 2 (by kernel_rfl) ?_
            refine up_mk rfl ?_
            refine s_call rfl (rLines A2 m _ d.fl _ (hr.wait.nilF.later H.only (by simp)) (by omega) hm) (ca111 rfl) ?_
            rintro e W1 ⟨A1', b1, c1', rfl, hb1, H'⟩
            refine ⟨_, rfl, ?_⟩
            obtain rfl := hb1 (by omega); have H := H.more H'; clear H'
            refine k_nil ?_
            refine t_on trivial ?_
            refine t_take 6 rfl (by kernel_rfl) (by kernel_rfl) (by kernel_rfl) rfl (fun _ _ _ _ h => h) rfl (fun _ hS => r_fa0 rfl fo55_2) trivial ?_
            refine t_up1 5 (by kernel_rfl) ?_
            refine up_mk rfl ?_
            refine s_call rfl (rFlags A4 m _ d.pend _ (hr.pend.nilF.later H.only (by simp)) (by omega) hm) (ca112 rfl) ?_
            rintro e W1 ⟨A2', b2, c2', rfl, hb2, H'⟩
            refine ⟨_, rfl, ?_⟩
            obtain rfl := hb2 (by omega); have H := H.more H'; clear H'
            refine k_nil ?_
            refine t_on trivial ?_
            refine t_up1 7 (by kernel_rfl) ?_
            refine up_mk rfl ?_
            refine s_st (u := .slice _ _ _) H 3 rfl rfl rfl rfl rfl rfl sz52 ?_
            intro _ H'; simp only [List.set_cons_zero, List.set_cons_succ, List.take_succ_cons, List.take_zero, List.drop_succ_cons, List.drop_zero, List.cons_append, List.nil_append, List.append_nil, List.length_cons, List.length_nil, Nat.reduceAdd] at H'; clear H; have H := H'; clear H'
            refine k_nil ?_
            refine t_on trivial ?_
            refine t_take 8 rfl (by kernel_rfl) (by kernel_rfl) (by kernel_rfl) rfl (fun _ _ _ _ h => h) rfl (fun _ hS => r_fa0 rfl fo55_4) trivial ?_
            refine t_up1 9 (by kernel_rfl) ?_
            refine up_mk rfl ?_
            refine s_st (u := .slice _ _ _) H 3 rfl rfl rfl rfl rfl rfl sz53 ?_
            intro _ H'; simp only [List.set_cons_zero, List.set_cons_succ, List.take_succ_cons, List.take_zero, List.drop_succ_cons, List.drop_zero, List.cons_append, List.nil_append, List.append_nil, List.length_cons, List.length_nil, Nat.reduceAdd] at H'; clear H; have H := H'; clear H'
            refine k_nil ?_
            refine t_on trivial ?_
            refine t_done (by kernel_rfl) ?_
            refine c_norm ?_
            refine k_seq ?_
            refine k_qt 9 mixed (by kernel_rfl) H rfl rfl ?_
            refine q_run rfl rfl (fun _ H => r_fa0 rfl fo55_2) ?_
            refine q_run rfl rfl (fun _ H => r_lo H 3 rfl rfl rfl ag52) ?_
            refine q_run rfl rfl (fun _ H => r_mv (v := .int _ _) rfl) ?_
            refine q_run rfl rfl (fun _ H => r_fa0 rfl fo55_0) ?_
            refine q_run rfl rfl (fun _ H => r_lo H 3 rfl rfl rfl ag52) ?_
            refine q_run rfl rfl (fun _ H => r_mv (v := .int _ _) rfl) ?_
            refine q_run rfl rfl (fun _ H => r_ix rfl rfl rfl (by omega) Try.underlying52 sz124) ?_
            refine q_run rfl rfl (fun _ H => r_lA (zs := Nv.part d.cache i) (hpart.later H.only (by simp)) rfl (Nv.length_part (by omega)) ag124 sz124) ?_
            refine q_run rfl rfl (fun _ H => r_ix0 rfl rfl rfl (by omega) Try.underlying52 sz124) ?_
            refine q_nil ?_
            intro _ H'; clear H; have H := H'; clear H'
            refine s_svA (zs := Nv.part d.cache i) H 1 rfl rfl rfl rfl (Nv.length_part (by omega)) (by omega) (fun _ => rfl) sz124 ?_
            intro _ H'; simp only [List.set_cons_zero, List.set_cons_succ, List.take_succ_cons, List.take_zero, List.drop_succ_cons, List.drop_zero, List.cons_append, List.nil_append, List.append_nil, List.length_cons, List.length_nil, Nat.reduceAdd] at H'; clear H; have H := H'; clear H'
            refine k_nil ?_
            refine c_norm ?_
            refine k_rg ?_
            refine s_run rfl rfl (r_fa0 rfl fo55_4) ?_
            refine s_run rfl rfl (r_lo H 3 rfl rfl rfl ag53) ?_
            refine s_run rfl rfl (r_mv (v := .int _ _) rfl) ?_
            refine s_run rfl rfl (r_ix1 rfl rfl rfl (by omega) Try.underlying53 sz4) ?_
            refine s_sv (u := .bool _) H 0 rfl rfl rfl rfl rfl (by omega) (fun _ => rfl) sz4 ?_
            intro _ H'; simp only [List.set_cons_zero, List.set_cons_succ, List.take_succ_cons, List.take_zero, List.drop_succ_cons, List.drop_zero, List.cons_append, List.nil_append, List.append_nil, List.length_cons, List.length_nil, Nat.reduceAdd] at H'; clear H; have H := H'; clear H'
            refine k_nil ?_
            refine c_norm ?_
            refine k_seq ?_
            refine k_rg ?_
            refine s_run rfl rfl (r_la H 3 rfl rfl rfl ag55 sz55) ?_
            refine s_sw H 2 rfl rfl rfl rfl rfl rfl rfl sz55 ?_
            intro _ H'; simp only [List.set_cons_zero, List.set_cons_succ, List.take_succ_cons, List.take_zero, List.drop_succ_cons, List.drop_zero, List.cons_append, List.nil_append, List.append_nil, List.length_cons, List.length_nil, Nat.reduceAdd] at H'; clear H; have H := H'; clear H'
            refine s_run rfl rfl (r_as (v := .int _ _) rfl) ?_
            refine k_nil ?_
            refine c_norm ?_
            refine k_ret ?_
            refine fx2r rfl (rv_a H 2 rfl rfl rfl ag55 sz55) (rv_t (v := .int _ _) rfl) ?_
            have e1 : i * 8 = 8 * i := by omega
            rw [e1] at H
            have e2 : Nv.setPart d.fl i (Nv.part d.cache i) = d.fl.take (8 * i) ++ (Nv.part d.cache i ++ d.fl.drop (8 * i + 8)) := by simp [Nv.setPart]
            rw [← e2] at H
            refine ⟨⟨some ⟨bn, on, none⟩, c0, A1, c1, some ⟨b1, 0, none⟩, c1', some ⟨bd, od, none⟩, c3, some ⟨b2, 0, none⟩, c2', rf⟩, rfl, H.clear, ⟨?_, hr.last.later H.only (by simp), ?_, ?_, ?_, hf', hok.stepped.flushed (by omega)⟩⟩
            · exact hr.now.later H.only (by simp)
            · exact H.sees 1 rfl hF (m := 1) (fun _ => rfl) (fun _ => by simp)
            · exact hr.dirty.later H.only (by simp)
            · exact H.sees 0 rfl hF (m := 1) (fun _ => rfl) (fun _ => by simp)
        · refine up_mk rfl ?_
          refine s_run rfl rfl (r_lo H 1 rfl rfl rfl ag53) ?_
          refine k_nil ?_
          refine t_on trivial ?_
          refine t_up1 1 (by kernel_rfl) ?_
          refine up_mk rfl ?_
          refine s_run rfl rfl (r_lo H 1 rfl rfl rfl ag52) ?_
          refine k_nil ?_
          refine t_on trivial ?_
          refine t_up1 2 (by kernel_rfl) ?_
          refine up_mk rfl ?_
          refine s_call rfl (rLines A2 m _ d.fl _ (hr.wait.nilF.later H.only (by simp)) (by omega) hm) (ca111 rfl) ?_
          rintro e W1 ⟨A1', b1, c1', rfl, hb1, H'⟩
          refine ⟨_, rfl, ?_⟩
          obtain rfl := hb1 (by omega); have H := H.more H'; clear H'
          refine k_nil ?_
          refine t_on trivial ?_
          refine t_take 6 rfl (by kernel_rfl) (by kernel_rfl) (by kernel_rfl) rfl (fun _ _ _ _ h => h) rfl (fun _ hS => r_fa0 rfl fo55_2) trivial ?_
          refine t_up1 5 (by kernel_rfl) ?_
          refine up_mk rfl ?_
          refine s_call rfl (rFlags A4 m _ d.pend _ (hr.pend.nilF.later H.only (by simp)) (by omega) hm) (ca112 rfl) ?_
          rintro e W1 ⟨A2', b2, c2', rfl, hb2, H'⟩
          refine ⟨_, rfl, ?_⟩
          obtain rfl := hb2 (by omega); have H := H.more H'; clear H'
          refine k_nil ?_
          refine t_on trivial ?_
          refine t_up1 7 (by kernel_rfl) ?_
          refine up_mk rfl ?_
          refine s_st (u := .slice _ _ _) H 3 rfl rfl rfl rfl rfl rfl sz52 ?_
          intro _ H'; simp only [List.set_cons_zero, List.set_cons_succ, List.take_succ_cons, List.take_zero, List.drop_succ_cons, List.drop_zero, List.cons_append, List.nil_append, List.append_nil, List.length_cons, List.length_nil, Nat.reduceAdd] at H'; clear H; have H := H'; clear H'
          refine k_nil ?_
          refine t_on trivial ?_
          refine t_take 8 rfl (by kernel_rfl) (by kernel_rfl) (by kernel_rfl) rfl (fun _ _ _ _ h => h) rfl (fun _ hS => r_fa0 rfl fo55_4) trivial ?_
          refine t_up1 9 (by kernel_rfl) ?_
          refine up_mk rfl ?_
          refine s_st (u := .slice _ _ _) H 3 rfl rfl rfl rfl rfl rfl sz53 ?_
          intro _ H'; simp only [List.set_cons_zero, List.set_cons_succ, List.take_succ_cons, List.take_zero, List.drop_succ_cons, List.drop_zero, List.cons_append, List.nil_append, List.append_nil, List.length_cons, List.length_nil, Nat.reduceAdd] at H'; clear H; have H := H'; clear H'
          refine k_nil ?_
          refine t_on trivial ?_
          refine t_done (by kernel_rfl) ?_
          refine c_norm ?_
          refine k_seq ?_
          refine k_qt 9 mixed (by kernel_rfl) H rfl rfl ?_
          refine q_run rfl rfl (fun _ H => r_fa0 rfl fo55_2) ?_
          refine q_run rfl rfl (fun _ H => r_lo H 3 rfl rfl rfl ag52) ?_
          refine q_run rfl rfl (fun _ H => r_mv (v := .int _ _) rfl) ?_
          refine q_run rfl rfl (fun _ H => r_fa0 rfl fo55_0) ?_
          refine q_run rfl rfl (fun _ H => r_lo H 3 rfl rfl rfl ag52) ?_
          refine q_run rfl rfl (fun _ H => r_mv (v := .int _ _) rfl) ?_
          refine q_run rfl rfl (fun _ H => r_ix rfl rfl rfl (by omega) Try.underlying52 sz124) ?_
          refine q_run rfl rfl (fun _ H => r_lA (zs := Nv.part d.cache i) (hpart.later H.only (by simp)) rfl (Nv.length_part (by omega)) ag124 sz124) ?_
          refine q_run rfl rfl (fun _ H => r_ix0 rfl rfl rfl (by omega) Try.underlying52 sz124) ?_
          refine q_nil ?_
          intro _ H'; clear H; have H := H'; clear H'
          refine s_svA (zs := Nv.part d.cache i) H 1 rfl rfl rfl rfl (Nv.length_part (by omega)) (by omega) (fun _ => rfl) sz124 ?_
          intro _ H'; simp only [List.set_cons_zero, List.set_cons_succ, List.take_succ_cons, List.take_zero, List.drop_succ_cons, List.drop_zero, List.cons_append, List.nil_append, List.append_nil, List.length_cons, List.length_nil, Nat.reduceAdd] at H'; clear H; have H := H'; clear H'
          refine k_nil ?_
          refine c_norm ?_
          refine k_rg ?_
          refine s_run rfl rfl (r_fa0 rfl fo55_4) ?_
          refine s_run rfl rfl (r_lo H 3 rfl rfl rfl ag53) ?_
          refine s_run rfl rfl (r_mv (v := .int _ _) rfl) ?_
          refine s_run rfl rfl (r_ix1 rfl rfl rfl (by omega) Try.underlying53 sz4) ?_
          refine s_sv (u := .bool _) H 0 rfl rfl rfl rfl rfl (by omega) (fun _ => rfl) sz4 ?_
          intro _ H'; simp only [List.set_cons_zero, List.set_cons_succ, List.take_succ_cons, List.take_zero, List.drop_succ_cons, List.drop_zero, List.cons_append, List.nil_append, List.append_nil, List.length_cons, List.length_nil, Nat.reduceAdd] at H'; clear H; have H := H'; clear H'
          refine k_nil ?_
          refine c_norm ?_
          refine k_seq ?_
          refine k_rg ?_
          refine s_run rfl rfl (r_la H 3 rfl rfl rfl ag55 sz55) ?_
          refine s_sw H 2 rfl rfl rfl rfl rfl rfl rfl sz55 ?_
          intro _ H'; simp only [List.set_cons_zero, List.set_cons_succ, List.take_succ_cons, List.take_zero, List.drop_succ_cons, List.drop_zero, List.cons_append, List.nil_append, List.append_nil, List.length_cons, List.length_nil, Nat.reduceAdd] at H'; clear H; have H := H'; clear H'
          refine s_run rfl rfl (r_as (v := .int _ _) rfl) ?_
          refine k_nil ?_
          refine c_norm ?_
          refine k_ret ?_
          refine fx2r rfl (rv_a H 2 rfl rfl rfl ag55 sz55) (rv_t (v := .int _ _) rfl) ?_
          have e1 : i * 8 = 8 * i := by omega
          rw [e1] at H
          have e2 : Nv.setPart d.fl i (Nv.part d.cache i) = d.fl.take (8 * i) ++ (Nv.part d.cache i ++ d.fl.drop (8 * i + 8)) := by simp [Nv.setPart]
          rw [← e2] at H
          refine ⟨⟨some ⟨bn, on, none⟩, c0, A1, c1, some ⟨b1, 0, none⟩, c1', some ⟨bd, od, none⟩, c3, some ⟨b2, 0, none⟩, c2', rf⟩, rfl, H.clear, ⟨?_, hr.last.later H.only (by simp), ?_, ?_, ?_, hf', hok.stepped.flushed (by omega)⟩⟩
          · exact hr.now.later H.only (by simp)
          · exact H.sees 1 rfl hF (m := 1) (fun _ => rfl) (fun _ => by simp)
          · exact hr.dirty.later H.only (by simp)
          · exact H.sees 0 rfl hF (m := 1) (fun _ => rfl) (fun _ => by simp)
      · rw [if_neg hdi]
        have hdi' : d.dirty.getD i default = false := by simpa using hdi
        rw [hdi'] at hcd
        rw [refE]
        simp only
        refine k_in (N := 52) Try.func72 rfl rfl rfl ?_
        refine k_seq ?_
        refine k_rg ?_
        refine s_box H rfl rfl ?_
        intro p2 _ H'; clear H; have H := H'; clear H'
        refine s_al H rfl inf55 ?_
        intro p4 _ H'; clear H; have H := H'; clear H'
        refine s_run rfl rfl (r_as (v := .int _ _) rfl) ?_
        refine k_nil ?_
        refine c_norm ?_
        refine k_seq ?_
        refine k_seq ?_
        refine k_rg ?_
        refine s_run rfl rfl (r_mv (v := .int _ _) rfl) ?_
        refine s_run rfl rfl (r_lssF rfl rfl (by omega)) ?_
        refine s_run rfl rfl (r_mv (v := .bool _) rfl) ?_
        refine s_run rfl (g_on 9 (by kernel_rfl) rfl) (r_mv (v := .int _ _) rfl) ?_
        refine s_run rfl (g_on 9 (by kernel_rfl) rfl) (r_fa0 rfl fo55_0) ?_
        refine s_run rfl (g_on 9 (by kernel_rfl) rfl) (r_lo H 1 rfl rfl rfl ag52) ?_
        refine s_run rfl (g_on 9 (by kernel_rfl) rfl) (r_len rfl Try.underlying52) ?_
        refine s_run rfl (g_on 9 (by kernel_rfl) rfl) (r_geqF rfl rfl (by omega)) ?_
        refine s_run rfl rfl (r_pkF (v := .bool _) rfl rfl) ?_
        refine k_nil ?_
        refine c_norm ?_
        refine k_f rfl ?_
        refine k_skip ?_
        refine c_norm ?_
        refine k_seq ?_
        refine k_rg ?_
        refine s_run rfl rfl (r_la H 1 rfl rfl rfl ag55 sz55) ?_
        refine s_call rfl (hS _ hr.fuse) (ca110 rfl) ?_
        rintro e W1 ⟨rf, rfl, H', hf'⟩
        refine ⟨_, rfl, ?_⟩
        have H := H.same H'; clear H'; simp only [refE, Nv.stepped]
        refine s_run rfl rfl (r_mv (v := .tuple _) rfl) ?_
        refine s_run rfl rfl (r_ext (v := .agg _) rfl rfl) ?_
        refine s_run rfl rfl (r_ext (v := .bool _) rfl rfl) ?_
        refine s_sw H 1 rfl rfl rfl rfl rfl rfl rfl sz55 ?_
        intro _ H'; simp only [List.set_cons_zero, List.set_cons_succ, List.take_succ_cons, List.take_zero, List.drop_succ_cons, List.drop_zero, List.cons_append, List.nil_append, List.append_nil, List.length_cons, List.length_nil, Nat.reduceAdd] at H'; clear H; have H := H'; clear H'
        refine s_run rfl rfl (r_as (v := .bool _) rfl) ?_
        refine k_nil ?_
        refine c_norm ?_
        refine k_seq ?_
        refine k_seq ?_
        refine k_rg ?_
        refine s_run rfl rfl (r_mv (v := .bool _) rfl) ?_
        refine s_run rfl rfl (r_notT rfl) ?_
        refine k_nil ?_
        refine c_norm ?_
        refine k_f rfl ?_
        refine k_skip ?_
        refine c_norm ?_
        refine k_seq ?_
        refine k_seq ?_
        refine k_rg ?_
        refine s_run rfl rfl (r_fa0 rfl fo55_3) ?_
        refine s_run rfl rfl (r_lo H 1 rfl rfl rfl ag53) ?_
        refine s_run rfl rfl (r_mv (v := .int _ _) rfl) ?_
        refine s_run rfl rfl (r_ix1o rfl rfl rfl (by omega) Try.underlying53 sz4) ?_
        refine s_run rfl rfl (r_lr H rfl hcd (by simp) ag4) ?_
        refine k_nil ?_
        refine c_norm ?_
        refine k_f rfl ?_
        refine k_skip ?_
        refine c_norm ?_
        refine k_seq ?_
        refine k_rg ?_
        refine s_run rfl rfl (r_la H 1 rfl rfl rfl ag55 sz55) ?_
        refine s_sw H 0 rfl rfl rfl rfl rfl rfl rfl sz55 ?_
        intro _ H'; simp only [List.set_cons_zero, List.set_cons_succ, List.take_succ_cons, List.take_zero, List.drop_succ_cons, List.drop_zero, List.cons_append, List.nil_append, List.append_nil, List.length_cons, List.length_nil, Nat.reduceAdd] at H'; clear H; have H := H'; clear H'
        refine s_run rfl rfl (r_as (v := .int _ _) rfl) ?_
        refine k_nil ?_
        refine c_norm ?_
        refine k_ret ?_
        refine fx2r rfl (rv_a H 0 rfl rfl rfl ag55 sz55) (rv_t (v := .int _ _) rfl) ?_
        refine ⟨⟨A0, c0, A1, c1, A2, c2, some ⟨bd, od, none⟩, c3, A4, c4, rf⟩, rfl, H.clear, ⟨hr.now.later H.only (by simp), hr.last.later H.only (by simp), hr.wait.later H.only (by simp), hr.dirty.later H.only (by simp), hr.pend.later H.only (by simp), hf', hok.stepped⟩⟩
  · have er : Nv.flush d m a = (d, 2) := by rw [Nv.flush, if_neg hin]
    rw [er, refE]
    by_cases h1 : a < 0
    · refine k_in (N := 52) Try.func72 rfl rfl rfl ?_
      refine k_seq ?_
      refine k_rg ?_
      refine s_box H rfl rfl ?_
      intro p2 _ H'; clear H; have H := H'; clear H'
      refine s_al H rfl inf55 ?_
      intro p4 _ H'; clear H; have H := H'; clear H'
      refine s_run rfl rfl (r_as (v := .int _ _) rfl) ?_
      refine k_nil ?_
      refine c_norm ?_
      refine k_seq ?_
      refine k_seq ?_
      refine k_rg ?_
      refine s_run rfl rfl (r_mv (v := .int _ _) rfl) ?_
      refine s_run rfl rfl (r_lssT rfl rfl (by omega)) ?_
      refine s_run rfl rfl (r_mv (v := .bool _) rfl) ?_
      refine s_off rfl (g_off 9 (by kernel_rfl) rfl rfl) ?_
      refine s_off rfl (g_off 9 (by kernel_rfl) rfl rfl) ?_
      refine s_off rfl (g_off 9 (by kernel_rfl) rfl rfl) ?_
      refine s_off rfl (g_off 9 (by kernel_rfl) rfl rfl) ?_
      refine s_off rfl (g_off 9 (by kernel_rfl) rfl rfl) ?_
      refine s_run rfl rfl (r_pkT (v := .bool _) rfl rfl) ?_
      refine k_nil ?_
      refine c_norm ?_
      refine k_t rfl ?_
      refine k_seq ?_
      refine k_rg ?_
      refine s_run rfl rfl (r_la H 1 rfl rfl rfl ag55 sz55) ?_
      refine s_sw H 0 rfl rfl rfl rfl rfl rfl rfl sz55 ?_
      intro _ H'; simp only [List.set_cons_zero, List.set_cons_succ, List.take_succ_cons, List.take_zero, List.drop_succ_cons, List.drop_zero, List.cons_append, List.nil_append, List.append_nil, List.length_cons, List.length_nil, Nat.reduceAdd] at H'; clear H; have H := H'; clear H'
      refine s_run rfl rfl (r_as (v := .int _ _) rfl) ?_
      refine k_nil ?_
      refine c_norm ?_
      refine k_ret ?_
      refine c_ret ?_
      refine fx2r rfl (rv_a H 0 rfl rfl rfl ag55 sz55) (rv_t (v := .int _ _) rfl) ?_
      exact ⟨_, rfl, H.clear, hr.later H.only (by simp)⟩
    · refine k_in (N := 52) Try.func72 rfl rfl rfl ?_
      refine k_seq ?_
      refine k_rg ?_
      refine s_box H rfl rfl ?_
      intro p2 _ H'; clear H; have H := H'; clear H'
      refine s_al H rfl inf55 ?_
      intro p4 _ H'; clear H; have H := H'; clear H'
      refine s_run rfl rfl (r_as (v := .int _ _) rfl) ?_
      refine k_nil ?_
      refine c_norm ?_
      refine k_seq ?_
      refine k_seq ?_
      refine k_rg ?_
      refine s_run rfl rfl (r_mv (v := .int _ _) rfl) ?_
      refine s_run rfl rfl (r_lssF rfl rfl (by omega)) ?_
      refine s_run rfl rfl (r_mv (v := .bool _) rfl) ?_
      refine s_run rfl (g_on 9 (by kernel_rfl) rfl) (r_mv (v := .int _ _) rfl) ?_
      refine s_run rfl (g_on 9 (by kernel_rfl) rfl) (r_fa0 rfl fo55_0) ?_
      refine s_run rfl (g_on 9 (by kernel_rfl) rfl) (r_lo H 1 rfl rfl rfl ag52) ?_
      refine s_run rfl (g_on 9 (by kernel_rfl) rfl) (r_len rfl Try.underlying52) ?_
      refine s_run rfl (g_on 9 (by kernel_rfl) rfl) (r_geqT rfl rfl (by omega)) ?_
      refine s_run rfl rfl (r_pkF (v := .bool _) rfl rfl) ?_
      refine k_nil ?_
      refine c_norm ?_
      refine k_t rfl ?_
      refine k_seq ?_
      refine k_rg ?_
      refine s_run rfl rfl (r_la H 1 rfl rfl rfl ag55 sz55) ?_
      refine s_sw H 0 rfl rfl rfl rfl rfl rfl rfl sz55 ?_
      intro _ H'; simp only [List.set_cons_zero, List.set_cons_succ, List.take_succ_cons, List.take_zero, List.drop_succ_cons, List.drop_zero, List.cons_append, List.nil_append, List.append_nil, List.length_cons, List.length_nil, Nat.reduceAdd] at H'; clear H; have H := H'; clear H'
      refine s_run rfl rfl (r_as (v := .int _ _) rfl) ?_
      refine k_nil ?_
      refine c_norm ?_
      refine k_ret ?_
      refine c_ret ?_
      refine fx2r rfl (rv_a H 0 rfl rfl rfl ag55 sz55) (rv_t (v := .int _ _) rfl) ?_
      exact ⟨_, rfl, H.clear, hr.later H.only (by simp)⟩
end Go.Proofs.Ytmekhdclnhhhbaa
