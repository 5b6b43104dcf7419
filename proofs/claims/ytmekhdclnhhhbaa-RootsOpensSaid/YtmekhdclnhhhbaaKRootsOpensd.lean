/- Parts of the proof, one behind the other. -/
import Derived.Test.YtmekhdclnhhhbaaKRootsOpensc
set_option linter.unusedSimpArgs false
set_option linter.unusedVariables false
section
namespace Go.Proofs.Ytmekhdclnhhhbaa
open Go.RowKit
theorem rGet (A : Option Addr) (m c : Nat) (a : Int) (zs : List Int) (w : World) (hz : Sees (Value.int .u64) w [] A zs) (hl : zs.length = 8 * m) (hm : m ≤ 100000) :
  Calls Try.prog 92 [.slice A m c, .int .i64 a].toArray w fun e w' => e = .returned (.int .u64 (Nv.get zs a)) ∧ Only [] w w' := by
 have H := Heap.nil w
 unfold Nv.get
 by_cases hin : 0 ≤ a ∧ a < (zs.length : Int)
 ·rw [if_pos hin]
  obtain ⟨i, rfl⟩ : ∃ i : Nat, a = (i : Int) := ⟨a.toNat, by omega⟩
  rw [Int.toNat_natCast]
  obtain ⟨b, o, rfl, _, hr⟩ := hz (by omega)
  have hc := hr i _ (getE (by omega))
  have e1 : o + i / 8 * 8 + i % 8 = o + i := by omega
  refine k_in (N := 22) Try.func92 rfl rfl rfl ?_
  refine k_sg ?_
  refine s_run rfl rfl (rai rfl) ?_
  refine k_nc ?_
  refine k_seq ?_
  refine k_sg ?_
  refine s_run rfl rfl (rmi rfl) ?_
  refine s_run rfl rfl (r_lssF rfl rfl (by omega)) ?_
  refine s_run rfl rfl (rmb rfl) ?_
  refine s_run rfl (g_on 7 (by kernel_rfl) rfl) (rmi rfl) ?_
  refine s_run rfl (g_on 7 (by kernel_rfl) rfl) (rms rfl) ?_
  refine s_run rfl (g_on 7 (by kernel_rfl) rfl) (r_len rfl Try.underlying52) ?_
  refine s_run rfl (g_on 7 (by kernel_rfl) rfl) (r_mul rfl rfl (wI (by omega))) ?_
  refine s_run rfl (g_on 7 (by kernel_rfl) rfl) (r_geqF rfl rfl (by omega)) ?_
  refine s_run rfl rfl (r_pkF (v := .bool _) rfl rfl) ?_
  refine k_nc ?_
  refine k_f rfl ?_
  refine k_skip ?_
  refine c_norm ?_
  refine k_sg ?_
  refine s_run rfl rfl (rms rfl) ?_
  refine s_run rfl rfl (rmi rfl) ?_
  refine s_run rfl rfl (r_quo rfl rfl (by omega) (wI (by omega))) ?_
  refine s_run rfl rfl (rmi rfl) ?_
  refine s_run rfl rfl (r_rem rfl rfl (by omega)) ?_
  refine s_run rfl rfl (r_ix (i := i / 8) rfl rfl (by omega) (by omega) Try.underlying52 sz124) ?_
  refine s_run rfl rfl (r_ia1 (i := i % 8) rfl rfl (by omega) (by omega) Try.underlying124 sz22) ?_
  refine s_run rfl rfl (r_lr H (i := o + i) (by rw [← e1]; rfl) hc (by simp) ag22) ?_
  refine s_run rfl rfl (rai rfl) ?_
  refine k_nc ?_
  refine k_ret ?_
  refine fin1r (v := .int _ _) rfl rfl ?_
  exact ⟨rfl, H.only⟩
 ·rw [if_neg hin]
  by_cases h1 : a < 0
  ·refine k_in (N := 22) Try.func92 rfl rfl rfl ?_
   refine k_sg ?_
   refine s_run rfl rfl (rai rfl) ?_
   refine k_nc ?_
   refine k_seq ?_
   refine k_sg ?_
   refine s_run rfl rfl (rmi rfl) ?_
   refine s_run rfl rfl (r_lssT rfl rfl (by omega)) ?_
   refine s_run rfl rfl (rmb rfl) ?_
   refine s_off rfl (g_off 7 (by kernel_rfl) rfl rfl) ?_
   refine s_off rfl (g_off 7 (by kernel_rfl) rfl rfl) ?_
   refine s_off rfl (g_off 7 (by kernel_rfl) rfl rfl) ?_
   refine s_off rfl (g_off 7 (by kernel_rfl) rfl rfl) ?_
   refine s_off rfl (g_off 7 (by kernel_rfl) rfl rfl) ?_
   refine s_run rfl rfl (r_pkT (v := .bool _) rfl rfl) ?_
   refine k_nc ?_
   refine k_t rfl ?_
   refine k_sg ?_
   refine s_run rfl rfl (rai rfl) ?_
   refine k_nc ?_
   refine k_ret ?_
   refine c_ret ?_
   refine fin1r (v := .int _ _) rfl rfl ?_
   exact ⟨rfl, H.only⟩
  ·refine k_in (N := 22) Try.func92 rfl rfl rfl ?_
   refine k_sg ?_
   refine s_run rfl rfl (rai rfl) ?_
   refine k_nc ?_
   refine k_seq ?_
   refine k_sg ?_
   refine s_run rfl rfl (rmi rfl) ?_
   refine s_run rfl rfl (r_lssF rfl rfl (by omega)) ?_
   refine s_run rfl rfl (rmb rfl) ?_
   refine s_run rfl (g_on 7 (by kernel_rfl) rfl) (rmi rfl) ?_
   refine s_run rfl (g_on 7 (by kernel_rfl) rfl) (rms rfl) ?_
   refine s_run rfl (g_on 7 (by kernel_rfl) rfl) (r_len rfl Try.underlying52) ?_
   refine s_run rfl (g_on 7 (by kernel_rfl) rfl) (r_mul rfl rfl (wI (by omega))) ?_
   refine s_run rfl (g_on 7 (by kernel_rfl) rfl) (r_geqT rfl rfl (by omega)) ?_
   refine s_run rfl rfl (r_pkF (v := .bool _) rfl rfl) ?_
   refine k_nc ?_
   refine k_t rfl ?_
   refine k_sg ?_
   refine s_run rfl rfl (rai rfl) ?_
   refine k_nc ?_
   refine k_ret ?_
   refine c_ret ?_
   refine fin1r (v := .int _ _) rfl rfl ?_
   exact ⟨rfl, H.only⟩
theorem rFlush (s : RefS) (d : Nv.D) (m : Nat) (a : Int) (F : List Nat) (w : World) (hr : RefOk w F s d m) (hF : ∀ i ∈ F, i < w.heap.size) (hm : m ≤ 100000) :
  Calls Try.prog 72 [.agg (refCells s d m).toArray, .int .i64 a].toArray w fun e w' => ∃ s', e = .returned (.tuple #[.agg (refCells s' (Nv.flush d m a).1 m).toArray, .int .i64 (Nv.flush d m a).2]) ∧ Heap w [] [] w' ∧ RefOk w' F s' (Nv.flush d m a).1 m := by
 have H := Heap.nil w
 obtain ⟨A0, c0, A1, c1, A2, c2, A3, c3, A4, c4, rf0⟩ := s
 have hok := hr.ok
 have hc := hok.hc
 have hf := hok.hf
 have hdd := hok.hd
 have hpp := hok.hp
 by_cases hin : 0 ≤ a ∧ a < (m : Int)
 ·have hS := rStep ⟨A0, c0, A1, c1, A2, c2, A3, c3, A4, c4, rf0⟩ d m
  by_cases hs : Nv.stops d = true
  ·have er : Nv.flush d m a = (Nv.killed d, 3) := by rw [Nv.flush, if_pos hin, if_pos hs]
   rw [er]
   simp only [hs, if_true, Bool.not_true] at hS
   rw [refE]
   refine k_in (N := 52) Try.func72 rfl rfl rfl ?_
   refine k_sg ?_
   refine s_box H rfl rfl ?_
   intro p2 _ H'; clear H; have H := H'; clear H'
   refine s_al H rfl inf55 ?_
   intro p4 _ H'; clear H; have H := H'; clear H'
   refine s_run rfl rfl (rai rfl) ?_
   refine k_nc ?_
   refine k_seq ?_
   refine k_sg ?_
   refine s_run rfl rfl (rmi rfl) ?_
   refine s_run rfl rfl (r_lssF rfl rfl (by omega)) ?_
   refine s_run rfl rfl (rmb rfl) ?_
   refine s_run rfl (g_on 9 (by kernel_rfl) rfl) (rmi rfl) ?_
   refine s_run rfl (g_on 9 (by kernel_rfl) rfl) (r_fa0 rfl fo55_0) ?_
   refine s_run rfl (g_on 9 (by kernel_rfl) rfl) (r_lo H 1 rfl rfl rfl ag52) ?_
   refine s_run rfl (g_on 9 (by kernel_rfl) rfl) (r_len rfl Try.underlying52) ?_
   refine s_run rfl (g_on 9 (by kernel_rfl) rfl) (r_geqF rfl rfl (by omega)) ?_
   refine s_run rfl rfl (r_pkF (v := .bool _) rfl rfl) ?_
   refine k_nc ?_
   refine k_f rfl ?_
   refine k_skip ?_
   refine c_norm ?_
   refine k_sg ?_
   refine s_run rfl rfl (r_la H 1 rfl rfl rfl ag55 sz55) ?_
   refine s_call rfl (hS _ hr.fuse) (ca110 rfl) ?_
   rintro e W1 ⟨rf, rfl, H', hf'⟩
   refine ⟨_, rfl, ?_⟩
   have H := H.same H'; clear H'; simp only [refE]
   refine s_run rfl rfl (rmt rfl) ?_
   refine s_run rfl rfl (r_ext (v := .agg _) rfl rfl) ?_
   refine s_run rfl rfl (r_ext (v := .bool _) rfl rfl) ?_
   refine s_sw H 1 rfl rfl rfl rfl rfl rfl rfl sz55 ?_
   clear H; intro _ H; simp only [jA, jB, jC, jD, jE, jF, jG, jH, jI, jJ, jK, Nat.reduceAdd] at H
   refine s_run rfl rfl (rab rfl) ?_
   refine k_nc ?_
   refine k_seq ?_
   refine k_sg ?_
   refine s_run rfl rfl (rmb rfl) ?_
   refine s_run rfl rfl (r_notF rfl) ?_
   refine k_nc ?_
   refine k_t rfl ?_
   refine k_sg ?_
   refine s_run rfl rfl (r_la H 1 rfl rfl rfl ag55 sz55) ?_
   refine s_sw H 0 rfl rfl rfl rfl rfl rfl rfl sz55 ?_
   clear H; intro _ H; simp only [jA, jB, jC, jD, jE, jF, jG, jH, jI, jJ, jK, Nat.reduceAdd] at H
   refine s_run rfl rfl (rai rfl) ?_
   refine k_nc ?_
   refine k_ret ?_
   refine c_ret ?_
   refine fx2r rfl (rv_a H 0 rfl rfl rfl ag55 sz55) (rv_t (v := .int _ _) rfl) ?_
   exact ⟨⟨A0, c0, A1, c1, A2, c2, A3, c3, A4, c4, rf⟩, rfl, H.clear, ⟨hr.now.later H.only (by simp), hr.last.later H.only (by simp), hr.wait.later H.only (by simp), hr.dirty.later H.only (by simp), hr.pend.later H.only (by simp), hf', hok.killed⟩⟩
  ·have hs : Nv.stops d = false := by simpa using hs
   obtain ⟨i, rfl⟩ : ∃ i : Nat, a = (i : Int) := ⟨a.toNat, by omega⟩
   have er : Nv.flush d m i = (if d.dirty.getD i false = true then Nv.flushed (Nv.stepped d) i else Nv.stepped d, 0) := by rw [Nv.flush, if_pos hin, if_neg (by simp [hs]), Int.toNat_natCast]
   rw [er]
   simp only [hs, Bool.false_eq_true, if_false, Bool.not_false] at hS
   obtain ⟨bd, od, ed, _, hrd⟩ := hr.dirty (by omega)
   have hcd := hrd i _ (getE (by omega))
   obtain rfl : A3 = some ⟨bd, od, none⟩ := ed
   by_cases hdi : d.dirty.getD i false = true
   ·rw [if_pos hdi]
    have hdi' : d.dirty.getD i default = true := hdi
    rw [hdi'] at hcd
    obtain ⟨bn, on, en, _, hrn⟩ := hr.now (by omega)
    obtain rfl : A0 = some ⟨bn, on, none⟩ := en
    rw [refE]
    simp only
    have hpart : Reads (Value.int .u64) w bn (on + i * 8) (Nv.part d.cache i) := by
     intro j z hz
     have hj : j < 8 := by have := (List.getElem?_eq_some_iff.1 hz).1; rw [Nv.length_part (by omega)] at this; omega
     unfold Nv.part at hz
     rw [List.getElem?_take_of_lt hj, List.getElem?_drop] at hz
     have := hrn _ _ hz
     rw [show on + i * 8 + j = on + (8 * i + j) from by omega]; exact this
    refine k_in (N := 52) Try.func72 rfl rfl rfl ?_
    refine k_sg ?_
    refine s_box H rfl rfl ?_
    intro p2 _ H'; clear H; have H := H'; clear H'
    refine s_al H rfl inf55 ?_
    intro p4 _ H'; clear H; have H := H'; clear H'
    refine s_run rfl rfl (rai rfl) ?_
    refine k_nc ?_
    refine k_seq ?_
    refine k_sg ?_
    refine s_run rfl rfl (rmi rfl) ?_
    refine s_run rfl rfl (r_lssF rfl rfl (by omega)) ?_
    refine s_run rfl rfl (rmb rfl) ?_
    refine s_run rfl (g_on 9 (by kernel_rfl) rfl) (rmi rfl) ?_
    refine s_run rfl (g_on 9 (by kernel_rfl) rfl) (r_fa0 rfl fo55_0) ?_
    refine s_run rfl (g_on 9 (by kernel_rfl) rfl) (r_lo H 1 rfl rfl rfl ag52) ?_
    refine s_run rfl (g_on 9 (by kernel_rfl) rfl) (r_len rfl Try.underlying52) ?_
    refine s_run rfl (g_on 9 (by kernel_rfl) rfl) (r_geqF rfl rfl (by omega)) ?_
    refine s_run rfl rfl (r_pkF (v := .bool _) rfl rfl) ?_
    refine k_nc ?_
    refine k_f rfl ?_
    refine k_skip ?_
    refine c_norm ?_
    refine k_sg ?_
    refine s_run rfl rfl (r_la H 1 rfl rfl rfl ag55 sz55) ?_
    refine s_call rfl (hS _ hr.fuse) (ca110 rfl) ?_
    rintro e W1 ⟨rf, rfl, H', hf'⟩
    refine ⟨_, rfl, ?_⟩
    have H := H.same H'; clear H'; simp only [refE, Nv.stepped]
    refine s_run rfl rfl (rmt rfl) ?_
    refine s_run rfl rfl (r_ext (v := .agg _) rfl rfl) ?_
    refine s_run rfl rfl (r_ext (v := .bool _) rfl rfl) ?_
    refine s_sw H 1 rfl rfl rfl rfl rfl rfl rfl sz55 ?_
    clear H; intro _ H; simp only [jA, jB, jC, jD, jE, jF, jG, jH, jI, jJ, jK, Nat.reduceAdd] at H
    refine s_run rfl rfl (rab rfl) ?_
    refine k_nc ?_
    refine k_seq ?_
    refine k_sg ?_
    refine s_run rfl rfl (rmb rfl) ?_
    refine s_run rfl rfl (r_notT rfl) ?_
    refine k_nc ?_
    refine k_f rfl ?_
    refine k_skip ?_
    refine c_norm ?_
    refine k_seq ?_
    refine k_sg ?_
    refine s_run rfl rfl (r_fa0 rfl fo55_3) ?_
    refine s_run rfl rfl (r_lo H 1 rfl rfl rfl ag53) ?_
    refine s_run rfl rfl (rmi rfl) ?_
    refine s_run rfl rfl (r_ix1o rfl rfl rfl (by omega) Try.underlying53 sz4) ?_
    refine s_run rfl rfl (r_lr H rfl hcd (by simp) ag4) ?_
    refine k_nc ?_
    refine k_t rfl ?_
    refine k_seq ?_
    refine k_trF mixed ?_; have H' := H.drew; clear H; have H := H'; clear H'
    refine tqh 0 rfl rfl rfl (fun _ hS => r_fa0 rfl fo55_2) trivial ?_
    refine tqh 3 rfl rfl rfl (fun _ hS => r_fa0 rfl fo55_4) trivial ?_
    refine t_up2 1 4 (by kernel_rfl) ?_ ?_
    ·refine up_mk rfl ?_
     refine s_run rfl rfl (r_lo H 1 rfl rfl rfl ag52) ?_
     refine k_nil ?_
     refine t_on trivial ?_
     refine t_up2 2 4 (by kernel_rfl) ?_ ?_
     ·refine up_mk rfl ?_
      refine s_call rfl (rLines A2 m _ d.fl _ (hr.wait.nilF.later H.only (by simp)) (by omega) hm) (ca111 rfl) ?_
      rintro e W1 ⟨A1', b1, c1', rfl, hb1, H'⟩
      refine ⟨_, rfl, ?_⟩
      obtain rfl := hb1 (by omega); have H := H.more H'; clear H'
      refine k_nil ?_
      refine t_on trivial ?_
      refine t_up1 4 (by kernel_rfl) ?_
      refine up_mk rfl ?_
      refine s_run rfl rfl (r_lo H 2 rfl rfl rfl ag53) ?_
      refine k_nil ?_
      refine t_on trivial ?_
      refine tqh 6 rfl rfl rfl (fun _ hS => r_fa0 rfl fo55_2) trivial ?_
      refine t_up1 5 (by kernel_rfl) ?_
      refine up_mk rfl ?_
      refine s_call rfl (rFlags A4 m _ d.pend _ (hr.pend.nilF.later H.only (by simp)) (by omega) hm) (ca112 rfl) ?_
      rintro e W1 ⟨A2', b2, c2', rfl, hb2, H'⟩
      refine ⟨_, rfl, ?_⟩
      obtain rfl := hb2 (by omega); have H := H.more H'; clear H'
      refine k_nil ?_
      refine t_on trivial ?_
      refine t_up1 7 (by kernel_rfl) ?_
      refine up_mk rfl ?_
      refine s_st (u := .slice _ _ _) H 3 rfl rfl rfl rfl rfl rfl sz52 ?_
      clear H; intro _ H; simp only [jA, jB, jC, jD, jE, jF, jG, jH, jI, jJ, jK, Nat.reduceAdd] at H
      refine k_nil ?_
      refine t_on trivial ?_
      refine tqh 8 rfl rfl rfl (fun _ hS => r_fa0 rfl fo55_4) trivial ?_
      refine t_up1 9 (by kernel_rfl) ?_
      refine up_mk rfl ?_
      refine s_st (u := .slice _ _ _) H 3 rfl rfl rfl rfl rfl rfl sz53 ?_
      clear H; intro _ H; simp only [jA, jB, jC, jD, jE, jF, jG, jH, jI, jJ, jK, Nat.reduceAdd] at H
      refine k_nil ?_
      refine t_on trivial ?_
      refine t_done (by kernel_rfl) ?_
      refine c_norm ?_
      refine k_seq ?_
      refine k_qt 9 mixed (by kernel_rfl) H rfl rfl ?_
      refine q_run rfl rfl (fun _ H => r_fa0 rfl fo55_2) ?_
      refine q_run rfl rfl (fun _ H => r_lo H 3 rfl rfl rfl ag52) ?_
      refine q_run rfl rfl (fun _ H => r_mv (v := .int _ _) rfl) ?_
      refine q_run rfl rfl (fun _ H => r_fa0 rfl fo55_0) ?_
      refine q_run rfl rfl (fun _ H => r_lo H 3 rfl rfl rfl ag52) ?_
      refine q_run rfl rfl (fun _ H => r_mv (v := .int _ _) rfl) ?_
      refine q_run rfl rfl (fun _ H => r_ix rfl rfl rfl (by omega) Try.underlying52 sz124) ?_
      refine q_run rfl rfl (fun _ H => r_lA (zs := Nv.part d.cache i) (hpart.later H.only (by simp)) rfl (Nv.length_part (by omega)) ag124 sz124) ?_
      refine q_run rfl rfl (fun _ H => r_ix0 rfl rfl rfl (by omega) Try.underlying52 sz124) ?_
      refine q_nil ?_
      intro _ H'; clear H; have H := H'; clear H'
      refine s_svA (zs := Nv.part d.cache i) H 1 rfl rfl rfl rfl (Nv.length_part (by omega)) (by omega) (fun _ => rfl) sz124 ?_
      clear H; intro _ H; simp only [jA, jB, jC, jD, jE, jF, jG, jH, jI, jJ, jK, Nat.reduceAdd] at H
      refine k_nc ?_
      refine k_rg ?_
      refine s_run rfl rfl (r_fa0 rfl fo55_4) ?_
      refine s_run rfl rfl (r_lo H 3 rfl rfl rfl ag53) ?_
      refine s_run rfl rfl (rmi rfl) ?_
      refine s_run rfl rfl (r_ix1 rfl rfl rfl (by omega) Try.underlying53 sz4) ?_
      refine s_sv (u := .bool _) H 0 rfl rfl rfl rfl rfl (by omega) (fun _ => rfl) sz4 ?_
      clear H; intro _ H; simp only [jA, jB, jC, jD, jE, jF, jG, jH, jI, jJ, jK, Nat.reduceAdd] at H
      refine k_nc ?_
      refine k_sg ?_
      refine s_run rfl rfl (r_la H 3 rfl rfl rfl ag55 sz55) ?_
      refine s_sw H 2 rfl rfl rfl rfl rfl rfl rfl sz55 ?_
      clear H; intro _ H; simp only [jA, jB, jC, jD, jE, jF, jG, jH, jI, jJ, jK, Nat.reduceAdd] at H
      refine s_run rfl rfl (rai rfl) ?_
      refine k_nc ?_
      refine k_ret ?_
      refine fx2r rfl (rv_a H 2 rfl rfl rfl ag55 sz55) (rv_t (v := .int _ _) rfl) ?_
      have e1 : i * 8 = 8 * i := by omega
      rw [e1] at H
      have e2 : Nv.setPart d.fl i (Nv.part d.cache i) = d.fl.take (8 * i) ++ (Nv.part d.cache i ++ d.fl.drop (8 * i + 8)) := by simp [Nv.setPart]
      rw [← e2] at H
      refine ⟨⟨some ⟨bn, on, none⟩, c0, A1, c1, some ⟨b1, 0, none⟩, c1', some ⟨bd, od, none⟩, c3, some ⟨b2, 0, none⟩, c2', rf⟩, rfl, H.clear, ⟨?_, hr.last.later H.only (by simp), ?_, ?_, ?_, hf', hok.stepped.flushed (by omega)⟩⟩
      ·exact hr.now.later H.only (by simp)
      ·exact H.sees 1 rfl hF (m := 1) (fun _ => rfl) (fun _ => by simp)
      ·exact hr.dirty.later H.only (by simp)
      ·exact H.sees 0 rfl hF (m := 1) (fun _ => rfl) (fun _ => by simp)
     ·refine up_mk rfl ?_
      refine s_run rfl rfl (r_lo H 1 rfl rfl rfl ag53) ?_
      refine k_nil ?_
      refine t_on trivial ?_
      refine t_up1 2 (by kernel_rfl) ?_
      refine up_mk rfl ?_
      refine s_call rfl (rLines A2 m _ d.fl _ (hr.wait.nilF.later H.only (by simp)) (by omega) hm) (ca111 rfl) ?_
      rintro e W1 ⟨A1', b1, c1', rfl, hb1, H'⟩
      refine ⟨_, rfl, ?_⟩
      obtain rfl := hb1 (by omega); have H := H.more H'; clear H'
      refine k_nil ?_
      refine t_on trivial ?_
      refine tqh 6 rfl rfl rfl (fun _ hS => r_fa0 rfl fo55_2) trivial ?_
      refine t_up1 5 (by kernel_rfl) ?_
      refine up_mk rfl ?_
      refine s_call rfl (rFlags A4 m _ d.pend _ (hr.pend.nilF.later H.only (by simp)) (by omega) hm) (ca112 rfl) ?_
      rintro e W1 ⟨A2', b2, c2', rfl, hb2, H'⟩
      refine ⟨_, rfl, ?_⟩
      obtain rfl := hb2 (by omega); have H := H.more H'; clear H'
      refine k_nil ?_
      refine t_on trivial ?_
      refine t_up1 7 (by kernel_rfl) ?_
      refine up_mk rfl ?_
      refine s_st (u := .slice _ _ _) H 3 rfl rfl rfl rfl rfl rfl sz52 ?_
      clear H; intro _ H; simp only [jA, jB, jC, jD, jE, jF, jG, jH, jI, jJ, jK, Nat.reduceAdd] at H
      refine k_nil ?_
      refine t_on trivial ?_
      refine tqh 8 rfl rfl rfl (fun _ hS => r_fa0 rfl fo55_4) trivial ?_
      refine t_up1 9 (by kernel_rfl) ?_
      refine up_mk rfl ?_
      refine s_st (u := .slice _ _ _) H 3 rfl rfl rfl rfl rfl rfl sz53 ?_
      clear H; intro _ H; simp only [jA, jB, jC, jD, jE, jF, jG, jH, jI, jJ, jK, Nat.reduceAdd] at H
      refine k_nil ?_
      refine t_on trivial ?_
      refine t_done (by kernel_rfl) ?_
      refine c_norm ?_
      refine k_seq ?_
      refine k_qt 9 mixed (by kernel_rfl) H rfl rfl ?_
      refine q_run rfl rfl (fun _ H => r_fa0 rfl fo55_2) ?_
      refine q_run rfl rfl (fun _ H => r_lo H 3 rfl rfl rfl ag52) ?_
      refine q_run rfl rfl (fun _ H => r_mv (v := .int _ _) rfl) ?_
      refine q_run rfl rfl (fun _ H => r_fa0 rfl fo55_0) ?_
      refine q_run rfl rfl (fun _ H => r_lo H 3 rfl rfl rfl ag52) ?_
      refine q_run rfl rfl (fun _ H => r_mv (v := .int _ _) rfl) ?_
      refine q_run rfl rfl (fun _ H => r_ix rfl rfl rfl (by omega) Try.underlying52 sz124) ?_
      refine q_run rfl rfl (fun _ H => r_lA (zs := Nv.part d.cache i) (hpart.later H.only (by simp)) rfl (Nv.length_part (by omega)) ag124 sz124) ?_
      refine q_run rfl rfl (fun _ H => r_ix0 rfl rfl rfl (by omega) Try.underlying52 sz124) ?_
      refine q_nil ?_
      intro _ H'; clear H; have H := H'; clear H'
      refine s_svA (zs := Nv.part d.cache i) H 1 rfl rfl rfl rfl (Nv.length_part (by omega)) (by omega) (fun _ => rfl) sz124 ?_
      clear H; intro _ H; simp only [jA, jB, jC, jD, jE, jF, jG, jH, jI, jJ, jK, Nat.reduceAdd] at H
      refine k_nc ?_
      refine k_rg ?_
      refine s_run rfl rfl (r_fa0 rfl fo55_4) ?_
      refine s_run rfl rfl (r_lo H 3 rfl rfl rfl ag53) ?_
      refine s_run rfl rfl (rmi rfl) ?_
      refine s_run rfl rfl (r_ix1 rfl rfl rfl (by omega) Try.underlying53 sz4) ?_
      refine s_sv (u := .bool _) H 0 rfl rfl rfl rfl rfl (by omega) (fun _ => rfl) sz4 ?_
      clear H; intro _ H; simp only [jA, jB, jC, jD, jE, jF, jG, jH, jI, jJ, jK, Nat.reduceAdd] at H
      refine k_nc ?_
      refine k_sg ?_
      refine s_run rfl rfl (r_la H 3 rfl rfl rfl ag55 sz55) ?_
      refine s_sw H 2 rfl rfl rfl rfl rfl rfl rfl sz55 ?_
      clear H; intro _ H; simp only [jA, jB, jC, jD, jE, jF, jG, jH, jI, jJ, jK, Nat.reduceAdd] at H
      refine s_run rfl rfl (rai rfl) ?_
      refine k_nc ?_
      refine k_ret ?_
      refine fx2r rfl (rv_a H 2 rfl rfl rfl ag55 sz55) (rv_t (v := .int _ _) rfl) ?_
      have e1 : i * 8 = 8 * i := by omega
      rw [e1] at H
      have e2 : Nv.setPart d.fl i (Nv.part d.cache i) = d.fl.take (8 * i) ++ (Nv.part d.cache i ++ d.fl.drop (8 * i + 8)) := by simp [Nv.setPart]
      rw [← e2] at H
      refine ⟨⟨some ⟨bn, on, none⟩, c0, A1, c1, some ⟨b1, 0, none⟩, c1', some ⟨bd, od, none⟩, c3, some ⟨b2, 0, none⟩, c2', rf⟩, rfl, H.clear, ⟨?_, hr.last.later H.only (by simp), ?_, ?_, ?_, hf', hok.stepped.flushed (by omega)⟩⟩
      ·exact hr.now.later H.only (by simp)
      ·exact H.sees 1 rfl hF (m := 1) (fun _ => rfl) (fun _ => by simp)
      ·exact hr.dirty.later H.only (by simp)
      ·exact H.sees 0 rfl hF (m := 1) (fun _ => rfl) (fun _ => by simp)
    ·refine up_mk rfl ?_
     refine s_run rfl rfl (r_lo H 1 rfl rfl rfl ag53) ?_
     refine k_nil ?_
     refine t_on trivial ?_
     refine t_up1 1 (by kernel_rfl) ?_
     refine up_mk rfl ?_
     refine s_run rfl rfl (r_lo H 1 rfl rfl rfl ag52) ?_
     refine k_nil ?_
     refine t_on trivial ?_
     refine t_up1 2 (by kernel_rfl) ?_
     refine up_mk rfl ?_
     refine s_call rfl (rLines A2 m _ d.fl _ (hr.wait.nilF.later H.only (by simp)) (by omega) hm) (ca111 rfl) ?_
     rintro e W1 ⟨A1', b1, c1', rfl, hb1, H'⟩
     refine ⟨_, rfl, ?_⟩
     obtain rfl := hb1 (by omega); have H := H.more H'; clear H'
     refine k_nil ?_
     refine t_on trivial ?_
     refine tqh 6 rfl rfl rfl (fun _ hS => r_fa0 rfl fo55_2) trivial ?_
     refine t_up1 5 (by kernel_rfl) ?_
     refine up_mk rfl ?_
     refine s_call rfl (rFlags A4 m _ d.pend _ (hr.pend.nilF.later H.only (by simp)) (by omega) hm) (ca112 rfl) ?_
     rintro e W1 ⟨A2', b2, c2', rfl, hb2, H'⟩
     refine ⟨_, rfl, ?_⟩
     obtain rfl := hb2 (by omega); have H := H.more H'; clear H'
     refine k_nil ?_
     refine t_on trivial ?_
     refine t_up1 7 (by kernel_rfl) ?_
     refine up_mk rfl ?_
     refine s_st (u := .slice _ _ _) H 3 rfl rfl rfl rfl rfl rfl sz52 ?_
     clear H; intro _ H; simp only [jA, jB, jC, jD, jE, jF, jG, jH, jI, jJ, jK, Nat.reduceAdd] at H
     refine k_nil ?_
     refine t_on trivial ?_
     refine tqh 8 rfl rfl rfl (fun _ hS => r_fa0 rfl fo55_4) trivial ?_
     refine t_up1 9 (by kernel_rfl) ?_
     refine up_mk rfl ?_
     refine s_st (u := .slice _ _ _) H 3 rfl rfl rfl rfl rfl rfl sz53 ?_
     clear H; intro _ H; simp only [jA, jB, jC, jD, jE, jF, jG, jH, jI, jJ, jK, Nat.reduceAdd] at H
     refine k_nil ?_
     refine t_on trivial ?_
     refine t_done (by kernel_rfl) ?_
     refine c_norm ?_
     refine k_seq ?_
     refine k_qt 9 mixed (by kernel_rfl) H rfl rfl ?_
     refine q_run rfl rfl (fun _ H => r_fa0 rfl fo55_2) ?_
     refine q_run rfl rfl (fun _ H => r_lo H 3 rfl rfl rfl ag52) ?_
     refine q_run rfl rfl (fun _ H => r_mv (v := .int _ _) rfl) ?_
     refine q_run rfl rfl (fun _ H => r_fa0 rfl fo55_0) ?_
     refine q_run rfl rfl (fun _ H => r_lo H 3 rfl rfl rfl ag52) ?_
     refine q_run rfl rfl (fun _ H => r_mv (v := .int _ _) rfl) ?_
     refine q_run rfl rfl (fun _ H => r_ix rfl rfl rfl (by omega) Try.underlying52 sz124) ?_
     refine q_run rfl rfl (fun _ H => r_lA (zs := Nv.part d.cache i) (hpart.later H.only (by simp)) rfl (Nv.length_part (by omega)) ag124 sz124) ?_
     refine q_run rfl rfl (fun _ H => r_ix0 rfl rfl rfl (by omega) Try.underlying52 sz124) ?_
     refine q_nil ?_
     intro _ H'; clear H; have H := H'; clear H'
     refine s_svA (zs := Nv.part d.cache i) H 1 rfl rfl rfl rfl (Nv.length_part (by omega)) (by omega) (fun _ => rfl) sz124 ?_
     clear H; intro _ H; simp only [jA, jB, jC, jD, jE, jF, jG, jH, jI, jJ, jK, Nat.reduceAdd] at H
     refine k_nc ?_
     refine k_rg ?_
     refine s_run rfl rfl (r_fa0 rfl fo55_4) ?_
     refine s_run rfl rfl (r_lo H 3 rfl rfl rfl ag53) ?_
     refine s_run rfl rfl (rmi rfl) ?_
     refine s_run rfl rfl (r_ix1 rfl rfl rfl (by omega) Try.underlying53 sz4) ?_
     refine s_sv (u := .bool _) H 0 rfl rfl rfl rfl rfl (by omega) (fun _ => rfl) sz4 ?_
     clear H; intro _ H; simp only [jA, jB, jC, jD, jE, jF, jG, jH, jI, jJ, jK, Nat.reduceAdd] at H
     refine k_nc ?_
     refine k_sg ?_
     refine s_run rfl rfl (r_la H 3 rfl rfl rfl ag55 sz55) ?_
     refine s_sw H 2 rfl rfl rfl rfl rfl rfl rfl sz55 ?_
     clear H; intro _ H; simp only [jA, jB, jC, jD, jE, jF, jG, jH, jI, jJ, jK, Nat.reduceAdd] at H
     refine s_run rfl rfl (rai rfl) ?_
     refine k_nc ?_
     refine k_ret ?_
     refine fx2r rfl (rv_a H 2 rfl rfl rfl ag55 sz55) (rv_t (v := .int _ _) rfl) ?_
     have e1 : i * 8 = 8 * i := by omega
     rw [e1] at H
     have e2 : Nv.setPart d.fl i (Nv.part d.cache i) = d.fl.take (8 * i) ++ (Nv.part d.cache i ++ d.fl.drop (8 * i + 8)) := by simp [Nv.setPart]
     rw [← e2] at H
     refine ⟨⟨some ⟨bn, on, none⟩, c0, A1, c1, some ⟨b1, 0, none⟩, c1', some ⟨bd, od, none⟩, c3, some ⟨b2, 0, none⟩, c2', rf⟩, rfl, H.clear, ⟨?_, hr.last.later H.only (by simp), ?_, ?_, ?_, hf', hok.stepped.flushed (by omega)⟩⟩
     ·exact hr.now.later H.only (by simp)
     ·exact H.sees 1 rfl hF (m := 1) (fun _ => rfl) (fun _ => by simp)
     ·exact hr.dirty.later H.only (by simp)
     ·exact H.sees 0 rfl hF (m := 1) (fun _ => rfl) (fun _ => by simp)
   ·rw [if_neg hdi]
    have hdi' : d.dirty.getD i default = false := by simpa using hdi
    rw [hdi'] at hcd
    rw [refE]
    simp only
    refine k_in (N := 52) Try.func72 rfl rfl rfl ?_
    refine k_sg ?_
    refine s_box H rfl rfl ?_
    intro p2 _ H'; clear H; have H := H'; clear H'
    refine s_al H rfl inf55 ?_
    intro p4 _ H'; clear H; have H := H'; clear H'
    refine s_run rfl rfl (rai rfl) ?_
    refine k_nc ?_
    refine k_seq ?_
    refine k_sg ?_
    refine s_run rfl rfl (rmi rfl) ?_
    refine s_run rfl rfl (r_lssF rfl rfl (by omega)) ?_
    refine s_run rfl rfl (rmb rfl) ?_
    refine s_run rfl (g_on 9 (by kernel_rfl) rfl) (rmi rfl) ?_
    refine s_run rfl (g_on 9 (by kernel_rfl) rfl) (r_fa0 rfl fo55_0) ?_
    refine s_run rfl (g_on 9 (by kernel_rfl) rfl) (r_lo H 1 rfl rfl rfl ag52) ?_
    refine s_run rfl (g_on 9 (by kernel_rfl) rfl) (r_len rfl Try.underlying52) ?_
    refine s_run rfl (g_on 9 (by kernel_rfl) rfl) (r_geqF rfl rfl (by omega)) ?_
    refine s_run rfl rfl (r_pkF (v := .bool _) rfl rfl) ?_
    refine k_nc ?_
    refine k_f rfl ?_
    refine k_skip ?_
    refine c_norm ?_
    refine k_sg ?_
    refine s_run rfl rfl (r_la H 1 rfl rfl rfl ag55 sz55) ?_
    refine s_call rfl (hS _ hr.fuse) (ca110 rfl) ?_
    rintro e W1 ⟨rf, rfl, H', hf'⟩
    refine ⟨_, rfl, ?_⟩
    have H := H.same H'; clear H'; simp only [refE, Nv.stepped]
    refine s_run rfl rfl (rmt rfl) ?_
    refine s_run rfl rfl (r_ext (v := .agg _) rfl rfl) ?_
    refine s_run rfl rfl (r_ext (v := .bool _) rfl rfl) ?_
    refine s_sw H 1 rfl rfl rfl rfl rfl rfl rfl sz55 ?_
    clear H; intro _ H; simp only [jA, jB, jC, jD, jE, jF, jG, jH, jI, jJ, jK, Nat.reduceAdd] at H
    refine s_run rfl rfl (rab rfl) ?_
    refine k_nc ?_
    refine k_seq ?_
    refine k_sg ?_
    refine s_run rfl rfl (rmb rfl) ?_
    refine s_run rfl rfl (r_notT rfl) ?_
    refine k_nc ?_
    refine k_f rfl ?_
    refine k_skip ?_
    refine c_norm ?_
    refine k_seq ?_
    refine k_sg ?_
    refine s_run rfl rfl (r_fa0 rfl fo55_3) ?_
    refine s_run rfl rfl (r_lo H 1 rfl rfl rfl ag53) ?_
    refine s_run rfl rfl (rmi rfl) ?_
    refine s_run rfl rfl (r_ix1o rfl rfl rfl (by omega) Try.underlying53 sz4) ?_
    refine s_run rfl rfl (r_lr H rfl hcd (by simp) ag4) ?_
    refine k_nc ?_
    refine k_f rfl ?_
    refine k_skip ?_
    refine c_norm ?_
    refine k_sg ?_
    refine s_run rfl rfl (r_la H 1 rfl rfl rfl ag55 sz55) ?_
    refine s_sw H 0 rfl rfl rfl rfl rfl rfl rfl sz55 ?_
    clear H; intro _ H; simp only [jA, jB, jC, jD, jE, jF, jG, jH, jI, jJ, jK, Nat.reduceAdd] at H
    refine s_run rfl rfl (rai rfl) ?_
    refine k_nc ?_
    refine k_ret ?_
    refine fx2r rfl (rv_a H 0 rfl rfl rfl ag55 sz55) (rv_t (v := .int _ _) rfl) ?_
    refine ⟨⟨A0, c0, A1, c1, A2, c2, some ⟨bd, od, none⟩, c3, A4, c4, rf⟩, rfl, H.clear, ⟨hr.now.later H.only (by simp), hr.last.later H.only (by simp), hr.wait.later H.only (by simp), hr.dirty.later H.only (by simp), hr.pend.later H.only (by simp), hf', hok.stepped⟩⟩
 ·have er : Nv.flush d m a = (d, 2) := by rw [Nv.flush, if_neg hin]
  rw [er, refE]
  by_cases h1 : a < 0
  ·refine k_in (N := 52) Try.func72 rfl rfl rfl ?_
   refine k_sg ?_
   refine s_box H rfl rfl ?_
   intro p2 _ H'; clear H; have H := H'; clear H'
   refine s_al H rfl inf55 ?_
   intro p4 _ H'; clear H; have H := H'; clear H'
   refine s_run rfl rfl (rai rfl) ?_
   refine k_nc ?_
   refine k_seq ?_
   refine k_sg ?_
   refine s_run rfl rfl (rmi rfl) ?_
   refine s_run rfl rfl (r_lssT rfl rfl (by omega)) ?_
   refine s_run rfl rfl (rmb rfl) ?_
   refine s_off rfl (g_off 9 (by kernel_rfl) rfl rfl) ?_
   refine s_off rfl (g_off 9 (by kernel_rfl) rfl rfl) ?_
   refine s_off rfl (g_off 9 (by kernel_rfl) rfl rfl) ?_
   refine s_off rfl (g_off 9 (by kernel_rfl) rfl rfl) ?_
   refine s_off rfl (g_off 9 (by kernel_rfl) rfl rfl) ?_
   refine s_run rfl rfl (r_pkT (v := .bool _) rfl rfl) ?_
   refine k_nc ?_
   refine k_t rfl ?_
   refine k_sg ?_
   refine s_run rfl rfl (r_la H 1 rfl rfl rfl ag55 sz55) ?_
   refine s_sw H 0 rfl rfl rfl rfl rfl rfl rfl sz55 ?_
   clear H; intro _ H; simp only [jA, jB, jC, jD, jE, jF, jG, jH, jI, jJ, jK, Nat.reduceAdd] at H
   refine s_run rfl rfl (rai rfl) ?_
   refine k_nc ?_
   refine k_ret ?_
   refine c_ret ?_
   refine fx2r rfl (rv_a H 0 rfl rfl rfl ag55 sz55) (rv_t (v := .int _ _) rfl) ?_
   exact ⟨_, rfl, H.clear, hr.later H.only (by simp)⟩
  ·refine k_in (N := 52) Try.func72 rfl rfl rfl ?_
   refine k_sg ?_
   refine s_box H rfl rfl ?_
   intro p2 _ H'; clear H; have H := H'; clear H'
   refine s_al H rfl inf55 ?_
   intro p4 _ H'; clear H; have H := H'; clear H'
   refine s_run rfl rfl (rai rfl) ?_
   refine k_nc ?_
   refine k_seq ?_
   refine k_sg ?_
   refine s_run rfl rfl (rmi rfl) ?_
   refine s_run rfl rfl (r_lssF rfl rfl (by omega)) ?_
   refine s_run rfl rfl (rmb rfl) ?_
   refine s_run rfl (g_on 9 (by kernel_rfl) rfl) (rmi rfl) ?_
   refine s_run rfl (g_on 9 (by kernel_rfl) rfl) (r_fa0 rfl fo55_0) ?_
   refine s_run rfl (g_on 9 (by kernel_rfl) rfl) (r_lo H 1 rfl rfl rfl ag52) ?_
   refine s_run rfl (g_on 9 (by kernel_rfl) rfl) (r_len rfl Try.underlying52) ?_
   refine s_run rfl (g_on 9 (by kernel_rfl) rfl) (r_geqT rfl rfl (by omega)) ?_
   refine s_run rfl rfl (r_pkF (v := .bool _) rfl rfl) ?_
   refine k_nc ?_
   refine k_t rfl ?_
   refine k_sg ?_
   refine s_run rfl rfl (r_la H 1 rfl rfl rfl ag55 sz55) ?_
   refine s_sw H 0 rfl rfl rfl rfl rfl rfl rfl sz55 ?_
   clear H; intro _ H; simp only [jA, jB, jC, jD, jE, jF, jG, jH, jI, jJ, jK, Nat.reduceAdd] at H
   refine s_run rfl rfl (rai rfl) ?_
   refine k_nc ?_
   refine k_ret ?_
   refine c_ret ?_
   refine fx2r rfl (rv_a H 0 rfl rfl rfl ag55 sz55) (rv_t (v := .int _ _) rfl) ?_
   exact ⟨_, rfl, H.clear, hr.later H.only (by simp)⟩
end Go.Proofs.Ytmekhdclnhhhbaa
end

section
namespace Go.Proofs.Ytmekhdclnhhhbaa
open Go.RowKit
theorem reads_part {w : World} {b o : Nat} {xs : List Int} {m i : Nat} (h : Reads (Value.int .u64) w b o xs) (hl : xs.length = 8 * m) (hi : i < m) : Reads (Value.int .u64) w b (o + i * 8) (Nv.part xs i) := by
 intro j z hz
 have hj : j < 8 := by have := (List.getElem?_eq_some_iff.1 hz).1; rw [Nv.length_part (by omega)] at this; omega
 unfold Nv.part at hz
 rw [List.getElem?_take_of_lt hj, List.getElem?_drop] at hz
 have := h _ _ hz
 rw [show o + i * 8 + j = o + (8 * i + j) from by omega]; exact this
end Go.Proofs.Ytmekhdclnhhhbaa
end

section
namespace Go.Proofs.Ytmekhdclnhhhbaa
open Go.RowKit
theorem rFence (s : RefS) (d : Nv.D) (m : Nat) (F : List Nat) (w : World) (hr : RefOk w F s d m) (hF : ∀ i ∈ F, i < w.heap.size) (hm : m ≤ 100000) :
  Calls Try.prog 73 [.agg (refCells s d m).toArray].toArray w fun e w' => ∃ s', e = .returned (.tuple #[.agg (refCells s' (Nv.fence d m).1 m).toArray, .int .i64 (Nv.fence d m).2]) ∧ Heap w [] [] w' ∧ RefOk w' F s' (Nv.fence d m).1 m := by
 have H := Heap.nil w
 obtain ⟨A0, c0, A1, c1, A2, c2, A3, c3, A4, c4, rf0⟩ := s
 have hok := hr.ok
 have hS := rStep ⟨A0, c0, A1, c1, A2, c2, A3, c3, A4, c4, rf0⟩ d m
 by_cases hs : Nv.stops d = true
 ·have er : Nv.fence d m = (Nv.killed d, 3) := by rw [Nv.fence, if_pos hs]
  rw [er]
  simp only [hs, if_true, Bool.not_true] at hS
  rw [refE]
  refine k_in (N := 95) Try.func73 rfl rfl rfl ?_
  refine k_sg ?_
  refine s_box H rfl rfl ?_
  intro p1 _ H'; clear H; have H := H'; clear H'
  refine s_al H rfl inf55 ?_
  intro p2 _ H'; clear H; have H := H'; clear H'
  refine s_run rfl rfl (rai rfl) ?_
  refine k_nc ?_
  refine k_sg ?_
  refine s_run rfl rfl (r_la H 1 rfl rfl rfl ag55 sz55) ?_
  refine s_call rfl (hS _ hr.fuse) (ca110 rfl) ?_
  rintro e W1 ⟨rf, rfl, H', hf'⟩
  refine ⟨_, rfl, ?_⟩
  have H := H.same H'; clear H'; simp only [refE]
  refine s_run rfl rfl (rmt rfl) ?_
  refine s_run rfl rfl (r_ext (v := .agg _) rfl rfl) ?_
  refine s_run rfl rfl (r_ext (v := .bool _) rfl rfl) ?_
  refine s_sw H 1 rfl rfl rfl rfl rfl rfl rfl sz55 ?_
  clear H; intro _ H; simp only [jA, jB, jC, jD, jE, jF, jG, jH, jI, jJ, jK, Nat.reduceAdd] at H
  refine s_run rfl rfl (rab rfl) ?_
  refine k_nc ?_
  refine k_seq ?_
  refine k_sg ?_
  refine s_run rfl rfl (rmb rfl) ?_
  refine s_run rfl rfl (r_notF rfl) ?_
  refine k_nc ?_
  refine k_t rfl ?_
  refine k_sg ?_
  refine s_run rfl rfl (r_la H 1 rfl rfl rfl ag55 sz55) ?_
  refine s_sw H 0 rfl rfl rfl rfl rfl rfl rfl sz55 ?_
  clear H; intro _ H; simp only [jA, jB, jC, jD, jE, jF, jG, jH, jI, jJ, jK, Nat.reduceAdd] at H
  refine s_run rfl rfl (rai rfl) ?_
  refine k_nc ?_
  refine k_ret ?_
  refine c_ret ?_
  refine fx2r rfl (rv_a H 0 rfl rfl rfl ag55 sz55) (rv_t (v := .int _ _) rfl) ?_
  exact ⟨⟨A0, c0, A1, c1, A2, c2, A3, c3, A4, c4, rf⟩, rfl, H.clear, ⟨hr.now.later H.only (by simp), hr.last.later H.only (by simp), hr.wait.later H.only (by simp), hr.dirty.later H.only (by simp), hr.pend.later H.only (by simp), hf', hok.killed⟩⟩
 have hs : Nv.stops d = false := by simpa using hs
 have er : Nv.fence d m = (Nv.fenceTo (Nv.stepped d) m, 0) := by rw [Nv.fence, if_neg (by simp [hs])]
 rw [er]
 simp only [hs, Bool.false_eq_true, if_false, Bool.not_false] at hS
 have ho1 := hok.stepped
 rw [refE]
 simp only
 refine k_in (N := 95) Try.func73 rfl rfl rfl ?_
 refine k_sg ?_
 refine s_box H rfl rfl ?_
 intro p1 _ H'; clear H; have H := H'; clear H'
 refine s_al H rfl inf55 ?_
 intro p2 _ H'; clear H; have H := H'; clear H'
 refine s_run rfl rfl (rai rfl) ?_
 refine k_nc ?_
 refine k_sg ?_
 refine s_run rfl rfl (r_la H 1 rfl rfl rfl ag55 sz55) ?_
 refine s_call rfl (hS _ hr.fuse) (ca110 rfl) ?_
 rintro e W1 ⟨rf, rfl, H', hf'⟩
 refine ⟨_, rfl, ?_⟩
 have H := H.same H'; clear H'; simp only [refE]
 refine s_run rfl rfl (rmt rfl) ?_
 refine s_run rfl rfl (r_ext (v := .agg _) rfl rfl) ?_
 refine s_run rfl rfl (r_ext (v := .bool _) rfl rfl) ?_
 refine s_sw H 1 rfl rfl rfl rfl rfl rfl rfl sz55 ?_
 clear H; intro _ H; simp only [jA, jB, jC, jD, jE, jF, jG, jH, jI, jJ, jK, Nat.reduceAdd] at H
 refine s_run rfl rfl (rab rfl) ?_
 refine k_nc ?_
 refine k_seq ?_
 refine k_sg ?_
 refine s_run rfl rfl (rmb rfl) ?_
 refine s_run rfl rfl (r_notT rfl) ?_
 refine k_nc ?_
 refine k_f rfl ?_
 refine k_skip ?_
 refine c_norm ?_
 refine k_seq ?_
 refine k_cut (fun f' W' => ∃ B1 b1 c1' B2 b2 c2' B3 b3 c3', (m ≠ 0 → B1 = some ⟨b1, 0, none⟩) ∧ (m ≠ 0 → B2 = some ⟨b2, 0, none⟩) ∧ (m ≠ 0 → B3 = some ⟨b3, 0, none⟩) ∧ f' 1 = ptr p1 ∧ f' 2 = ptr p2 ∧ Heap w [] [vec Value.bool b3 d.pend 4, vec Value.bool b2 d.dirty 4, vec (Value.int .u64) b1 d.last 124, blk p2 [.slice none 0 0, .slice none 0 0, .slice none 0 0, .slice none 0 0, .slice none 0 0, .int .i64 0, .int .i64 0, .bool false] 55, blk p1 [.slice A0 m c0, .slice B1 m c1', .slice A2 m c2, .slice B2 m c2', .slice B3 m c3', .int .i64 (Nv.stepped d).steps, .int .i64 rf, .bool (Nv.stepped d).dead] 55] W') ?_ ?_
 ·refine k_trF mixed ?_; have H' := H.drew; clear H; have H := H'; clear H'
  refine tqn 0 rfl rfl rfl (fun _ hS => r_fa0 rfl fo55_1) trivial ?_
  refine tqn 3 rfl rfl rfl (fun _ hS => r_fa0 rfl fo55_3) trivial ?_
  refine tqn 6 rfl rfl rfl (fun _ hS => r_fa0 rfl fo55_4) trivial ?_
  refine t_up3 1 4 7 (by kernel_rfl) ?_ ?_ ?_
  ·refine up_mk rfl ?_
   refine s_run rfl rfl (r_lo H 1 rfl rfl rfl ag52) ?_
   refine k_nil ?_
   refine t_on trivial ?_
   refine t_up3 2 4 7 (by kernel_rfl) ?_ ?_ ?_
   ·refine up_mk rfl ?_
    refine s_call rfl (rLines A1 m _ d.last _ (hr.last.nilF.later H.only (by simp)) (by have := hok.hl; omega) hm) (ca111 rfl) ?_
    rintro e W1 ⟨B1, b1, c1', rfl, hb1, H'⟩
    refine ⟨_, rfl, ?_⟩
    have H := H.more H'; clear H'; simp only [List.cons_append, List.nil_append] at H
    refine k_nil ?_
    refine t_on trivial ?_
    refine t_up2 4 7 (by kernel_rfl) ?_ ?_
    ·refine up_mk rfl ?_
     refine s_run rfl rfl (r_lo H 2 rfl rfl rfl ag53) ?_
     refine k_nil ?_
     refine t_on trivial ?_
     refine t_up2 5 7 (by kernel_rfl) ?_ ?_
     ·refine up_mk rfl ?_
      refine s_call rfl (rFlags A3 m _ d.dirty _ (hr.dirty.nilF.later H.only (by simp)) (by have := hok.hd; omega) hm) (ca112 rfl) ?_
      rintro e W1 ⟨B2, b2, c2', rfl, hb2, H'⟩
      refine ⟨_, rfl, ?_⟩
      have H := H.more H'; clear H'; simp only [List.cons_append, List.nil_append] at H
      refine k_nil ?_
      refine t_on trivial ?_
      refine t_up1 7 (by kernel_rfl) ?_
      refine up_mk rfl ?_
      refine s_run rfl rfl (r_lo H 3 rfl rfl rfl ag53) ?_
      refine k_nil ?_
      refine t_on trivial ?_
      refine tqn 9 rfl rfl rfl (fun _ hS => r_fa0 rfl fo55_1) trivial ?_
      refine t_up1 8 (by kernel_rfl) ?_
      refine up_mk rfl ?_
      refine s_call rfl (rFlags A4 m _ d.pend _ (hr.pend.nilF.later H.only (by simp)) (by have := hok.hp; omega) hm) (ca112 rfl) ?_
      rintro e W1 ⟨B3, b3, c3', rfl, hb3, H'⟩
      refine ⟨_, rfl, ?_⟩
      have H := H.more H'; clear H'; simp only [List.cons_append, List.nil_append] at H
      refine k_nil ?_
      refine t_on trivial ?_
      refine t_up1 10 (by kernel_rfl) ?_
      refine up_mk rfl ?_
      refine s_st (u := .slice _ _ _) H 4 rfl rfl rfl rfl rfl rfl sz52 ?_
      clear H; intro _ H; simp only [jA, jB, jC, jD, jE, jF, jG, jH, jI, jJ, jK, Nat.reduceAdd] at H
      refine k_nil ?_
      refine t_on trivial ?_
      refine tqn 11 rfl rfl rfl (fun _ hS => r_fa0 rfl fo55_3) trivial ?_
      refine t_up1 12 (by kernel_rfl) ?_
      refine up_mk rfl ?_
      refine s_st (u := .slice _ _ _) H 4 rfl rfl rfl rfl rfl rfl sz53 ?_
      clear H; intro _ H; simp only [jA, jB, jC, jD, jE, jF, jG, jH, jI, jJ, jK, Nat.reduceAdd] at H
      refine k_nil ?_
      refine t_on trivial ?_
      refine tqn 13 rfl rfl rfl (fun _ hS => r_fa0 rfl fo55_4) trivial ?_
      refine t_up1 14 (by kernel_rfl) ?_
      refine up_mk rfl ?_
      refine s_st (u := .slice _ _ _) H 4 rfl rfl rfl rfl rfl rfl sz53 ?_
      clear H; intro _ H; simp only [jA, jB, jC, jD, jE, jF, jG, jH, jI, jJ, jK, Nat.reduceAdd] at H
      refine k_nil ?_
      refine t_on trivial ?_
      refine t_done (by kernel_rfl) ?_
      refine k_met ?_
      exact ⟨_, _, _, _, _, _, _, _, _, hb1, hb2, hb3, rfl, rfl, H⟩
     ·refine up_mk rfl ?_
      refine s_run rfl rfl (r_lo H 2 rfl rfl rfl ag53) ?_
      refine k_nil ?_
      refine t_on trivial ?_
      refine tqn 9 rfl rfl rfl (fun _ hS => r_fa0 rfl fo55_1) trivial ?_
      refine t_up1 5 (by kernel_rfl) ?_
      refine up_mk rfl ?_
      refine s_call rfl (rFlags A3 m _ d.dirty _ (hr.dirty.nilF.later H.only (by simp)) (by have := hok.hd; omega) hm) (ca112 rfl) ?_
      rintro e W1 ⟨B2, b2, c2', rfl, hb2, H'⟩
      refine ⟨_, rfl, ?_⟩
      have H := H.more H'; clear H'; simp only [List.cons_append, List.nil_append] at H
      refine k_nil ?_
      refine t_on trivial ?_
      refine t_up1 8 (by kernel_rfl) ?_
      refine up_mk rfl ?_
      refine s_call rfl (rFlags A4 m _ d.pend _ (hr.pend.nilF.later H.only (by simp)) (by have := hok.hp; omega) hm) (ca112 rfl) ?_
      rintro e W1 ⟨B3, b3, c3', rfl, hb3, H'⟩
      refine ⟨_, rfl, ?_⟩
      have H := H.more H'; clear H'; simp only [List.cons_append, List.nil_append] at H
      refine k_nil ?_
      refine t_on trivial ?_
      refine t_up1 10 (by kernel_rfl) ?_
      refine up_mk rfl ?_
      refine s_st (u := .slice _ _ _) H 4 rfl rfl rfl rfl rfl rfl sz52 ?_
      clear H; intro _ H; simp only [jA, jB, jC, jD, jE, jF, jG, jH, jI, jJ, jK, Nat.reduceAdd] at H
      refine k_nil ?_
      refine t_on trivial ?_
      refine tqn 11 rfl rfl rfl (fun _ hS => r_fa0 rfl fo55_3) trivial ?_
      refine t_up1 12 (by kernel_rfl) ?_
      refine up_mk rfl ?_
      refine s_st (u := .slice _ _ _) H 4 rfl rfl rfl rfl rfl rfl sz53 ?_
      clear H; intro _ H; simp only [jA, jB, jC, jD, jE, jF, jG, jH, jI, jJ, jK, Nat.reduceAdd] at H
      refine k_nil ?_
      refine t_on trivial ?_
      refine tqn 13 rfl rfl rfl (fun _ hS => r_fa0 rfl fo55_4) trivial ?_
      refine t_up1 14 (by kernel_rfl) ?_
      refine up_mk rfl ?_
      refine s_st (u := .slice _ _ _) H 4 rfl rfl rfl rfl rfl rfl sz53 ?_
      clear H; intro _ H; simp only [jA, jB, jC, jD, jE, jF, jG, jH, jI, jJ, jK, Nat.reduceAdd] at H
      refine k_nil ?_
      refine t_on trivial ?_
      refine t_done (by kernel_rfl) ?_
      refine k_met ?_
      exact ⟨_, _, _, _, _, _, _, _, _, hb1, hb2, hb3, rfl, rfl, H⟩
    ·refine up_mk rfl ?_
     refine s_run rfl rfl (r_lo H 2 rfl rfl rfl ag53) ?_
     refine k_nil ?_
     refine t_on trivial ?_
     refine t_up1 4 (by kernel_rfl) ?_
     refine up_mk rfl ?_
     refine s_run rfl rfl (r_lo H 2 rfl rfl rfl ag53) ?_
     refine k_nil ?_
     refine t_on trivial ?_
     refine tqn 9 rfl rfl rfl (fun _ hS => r_fa0 rfl fo55_1) trivial ?_
     refine t_up1 5 (by kernel_rfl) ?_
     refine up_mk rfl ?_
     refine s_call rfl (rFlags A3 m _ d.dirty _ (hr.dirty.nilF.later H.only (by simp)) (by have := hok.hd; omega) hm) (ca112 rfl) ?_
     rintro e W1 ⟨B2, b2, c2', rfl, hb2, H'⟩
     refine ⟨_, rfl, ?_⟩
     have H := H.more H'; clear H'; simp only [List.cons_append, List.nil_append] at H
     refine k_nil ?_
     refine t_on trivial ?_
     refine t_up1 8 (by kernel_rfl) ?_
     refine up_mk rfl ?_
     refine s_call rfl (rFlags A4 m _ d.pend _ (hr.pend.nilF.later H.only (by simp)) (by have := hok.hp; omega) hm) (ca112 rfl) ?_
     rintro e W1 ⟨B3, b3, c3', rfl, hb3, H'⟩
     refine ⟨_, rfl, ?_⟩
     have H := H.more H'; clear H'; simp only [List.cons_append, List.nil_append] at H
     refine k_nil ?_
     refine t_on trivial ?_
     refine t_up1 10 (by kernel_rfl) ?_
     refine up_mk rfl ?_
     refine s_st (u := .slice _ _ _) H 4 rfl rfl rfl rfl rfl rfl sz52 ?_
     clear H; intro _ H; simp only [jA, jB, jC, jD, jE, jF, jG, jH, jI, jJ, jK, Nat.reduceAdd] at H
     refine k_nil ?_
     refine t_on trivial ?_
     refine tqn 11 rfl rfl rfl (fun _ hS => r_fa0 rfl fo55_3) trivial ?_
     refine t_up1 12 (by kernel_rfl) ?_
     refine up_mk rfl ?_
     refine s_st (u := .slice _ _ _) H 4 rfl rfl rfl rfl rfl rfl sz53 ?_
     clear H; intro _ H; simp only [jA, jB, jC, jD, jE, jF, jG, jH, jI, jJ, jK, Nat.reduceAdd] at H
     refine k_nil ?_
     refine t_on trivial ?_
     refine tqn 13 rfl rfl rfl (fun _ hS => r_fa0 rfl fo55_4) trivial ?_
     refine t_up1 14 (by kernel_rfl) ?_
     refine up_mk rfl ?_
     refine s_st (u := .slice _ _ _) H 4 rfl rfl rfl rfl rfl rfl sz53 ?_
     clear H; intro _ H; simp only [jA, jB, jC, jD, jE, jF, jG, jH, jI, jJ, jK, Nat.reduceAdd] at H
     refine k_nil ?_
     refine t_on trivial ?_
     refine t_done (by kernel_rfl) ?_
     refine k_met ?_
     exact ⟨_, _, _, _, _, _, _, _, _, hb1, hb2, hb3, rfl, rfl, H⟩
   ·refine up_mk rfl ?_
    refine s_run rfl rfl (r_lo H 1 rfl rfl rfl ag53) ?_
    refine k_nil ?_
    refine t_on trivial ?_
    refine t_up2 2 7 (by kernel_rfl) ?_ ?_
    ·refine up_mk rfl ?_
     refine s_call rfl (rLines A1 m _ d.last _ (hr.last.nilF.later H.only (by simp)) (by have := hok.hl; omega) hm) (ca111 rfl) ?_
     rintro e W1 ⟨B1, b1, c1', rfl, hb1, H'⟩
     refine ⟨_, rfl, ?_⟩
     have H := H.more H'; clear H'; simp only [List.cons_append, List.nil_append] at H
     refine k_nil ?_
     refine t_on trivial ?_
     refine t_up2 5 7 (by kernel_rfl) ?_ ?_
     ·refine up_mk rfl ?_
      refine s_call rfl (rFlags A3 m _ d.dirty _ (hr.dirty.nilF.later H.only (by simp)) (by have := hok.hd; omega) hm) (ca112 rfl) ?_
      rintro e W1 ⟨B2, b2, c2', rfl, hb2, H'⟩
      refine ⟨_, rfl, ?_⟩
      have H := H.more H'; clear H'; simp only [List.cons_append, List.nil_append] at H
      refine k_nil ?_
      refine t_on trivial ?_
      refine t_up1 7 (by kernel_rfl) ?_
      refine up_mk rfl ?_
      refine s_run rfl rfl (r_lo H 3 rfl rfl rfl ag53) ?_
      refine k_nil ?_
      refine t_on trivial ?_
      refine tqn 9 rfl rfl rfl (fun _ hS => r_fa0 rfl fo55_1) trivial ?_
      refine t_up1 8 (by kernel_rfl) ?_
      refine up_mk rfl ?_
      refine s_call rfl (rFlags A4 m _ d.pend _ (hr.pend.nilF.later H.only (by simp)) (by have := hok.hp; omega) hm) (ca112 rfl) ?_
      rintro e W1 ⟨B3, b3, c3', rfl, hb3, H'⟩
      refine ⟨_, rfl, ?_⟩
      have H := H.more H'; clear H'; simp only [List.cons_append, List.nil_append] at H
      refine k_nil ?_
      refine t_on trivial ?_
      refine t_up1 10 (by kernel_rfl) ?_
      refine up_mk rfl ?_
      refine s_st (u := .slice _ _ _) H 4 rfl rfl rfl rfl rfl rfl sz52 ?_
      clear H; intro _ H; simp only [jA, jB, jC, jD, jE, jF, jG, jH, jI, jJ, jK, Nat.reduceAdd] at H
      refine k_nil ?_
      refine t_on trivial ?_
      refine tqn 11 rfl rfl rfl (fun _ hS => r_fa0 rfl fo55_3) trivial ?_
      refine t_up1 12 (by kernel_rfl) ?_
      refine up_mk rfl ?_
      refine s_st (u := .slice _ _ _) H 4 rfl rfl rfl rfl rfl rfl sz53 ?_
      clear H; intro _ H; simp only [jA, jB, jC, jD, jE, jF, jG, jH, jI, jJ, jK, Nat.reduceAdd] at H
      refine k_nil ?_
      refine t_on trivial ?_
      refine tqn 13 rfl rfl rfl (fun _ hS => r_fa0 rfl fo55_4) trivial ?_
      refine t_up1 14 (by kernel_rfl) ?_
      refine up_mk rfl ?_
      refine s_st (u := .slice _ _ _) H 4 rfl rfl rfl rfl rfl rfl sz53 ?_
      clear H; intro _ H; simp only [jA, jB, jC, jD, jE, jF, jG, jH, jI, jJ, jK, Nat.reduceAdd] at H
      refine k_nil ?_
      refine t_on trivial ?_
      refine t_done (by kernel_rfl) ?_
      refine k_met ?_
      exact ⟨_, _, _, _, _, _, _, _, _, hb1, hb2, hb3, rfl, rfl, H⟩
     ·refine up_mk rfl ?_
      refine s_run rfl rfl (r_lo H 2 rfl rfl rfl ag53) ?_
      refine k_nil ?_
      refine t_on trivial ?_
      refine tqn 9 rfl rfl rfl (fun _ hS => r_fa0 rfl fo55_1) trivial ?_
      refine t_up1 5 (by kernel_rfl) ?_
      refine up_mk rfl ?_
      refine s_call rfl (rFlags A3 m _ d.dirty _ (hr.dirty.nilF.later H.only (by simp)) (by have := hok.hd; omega) hm) (ca112 rfl) ?_
      rintro e W1 ⟨B2, b2, c2', rfl, hb2, H'⟩
      refine ⟨_, rfl, ?_⟩
      have H := H.more H'; clear H'; simp only [List.cons_append, List.nil_append] at H
      refine k_nil ?_
      refine t_on trivial ?_
      refine t_up1 8 (by kernel_rfl) ?_
      refine up_mk rfl ?_
      refine s_call rfl (rFlags A4 m _ d.pend _ (hr.pend.nilF.later H.only (by simp)) (by have := hok.hp; omega) hm) (ca112 rfl) ?_
      rintro e W1 ⟨B3, b3, c3', rfl, hb3, H'⟩
      refine ⟨_, rfl, ?_⟩
      have H := H.more H'; clear H'; simp only [List.cons_append, List.nil_append] at H
      refine k_nil ?_
      refine t_on trivial ?_
      refine t_up1 10 (by kernel_rfl) ?_
      refine up_mk rfl ?_
      refine s_st (u := .slice _ _ _) H 4 rfl rfl rfl rfl rfl rfl sz52 ?_
      clear H; intro _ H; simp only [jA, jB, jC, jD, jE, jF, jG, jH, jI, jJ, jK, Nat.reduceAdd] at H
      refine k_nil ?_
      refine t_on trivial ?_
      refine tqn 11 rfl rfl rfl (fun _ hS => r_fa0 rfl fo55_3) trivial ?_
      refine t_up1 12 (by kernel_rfl) ?_
      refine up_mk rfl ?_
      refine s_st (u := .slice _ _ _) H 4 rfl rfl rfl rfl rfl rfl sz53 ?_
      clear H; intro _ H; simp only [jA, jB, jC, jD, jE, jF, jG, jH, jI, jJ, jK, Nat.reduceAdd] at H
      refine k_nil ?_
      refine t_on trivial ?_
      refine tqn 13 rfl rfl rfl (fun _ hS => r_fa0 rfl fo55_4) trivial ?_
      refine t_up1 14 (by kernel_rfl) ?_
      refine up_mk rfl ?_
      refine s_st (u := .slice _ _ _) H 4 rfl rfl rfl rfl rfl rfl sz53 ?_
      clear H; intro _ H; simp only [jA, jB, jC, jD, jE, jF, jG, jH, jI, jJ, jK, Nat.reduceAdd] at H
      refine k_nil ?_
      refine t_on trivial ?_
      refine t_done (by kernel_rfl) ?_
      refine k_met ?_
      exact ⟨_, _, _, _, _, _, _, _, _, hb1, hb2, hb3, rfl, rfl, H⟩
    ·refine up_mk rfl ?_
     refine s_run rfl rfl (r_lo H 1 rfl rfl rfl ag53) ?_
     refine k_nil ?_
     refine t_on trivial ?_
     refine t_up1 2 (by kernel_rfl) ?_
     refine up_mk rfl ?_
     refine s_call rfl (rLines A1 m _ d.last _ (hr.last.nilF.later H.only (by simp)) (by have := hok.hl; omega) hm) (ca111 rfl) ?_
     rintro e W1 ⟨B1, b1, c1', rfl, hb1, H'⟩
     refine ⟨_, rfl, ?_⟩
     have H := H.more H'; clear H'; simp only [List.cons_append, List.nil_append] at H
     refine k_nil ?_
     refine t_on trivial ?_
     refine tqn 9 rfl rfl rfl (fun _ hS => r_fa0 rfl fo55_1) trivial ?_
     refine t_up1 5 (by kernel_rfl) ?_
     refine up_mk rfl ?_
     refine s_call rfl (rFlags A3 m _ d.dirty _ (hr.dirty.nilF.later H.only (by simp)) (by have := hok.hd; omega) hm) (ca112 rfl) ?_
     rintro e W1 ⟨B2, b2, c2', rfl, hb2, H'⟩
     refine ⟨_, rfl, ?_⟩
     have H := H.more H'; clear H'; simp only [List.cons_append, List.nil_append] at H
     refine k_nil ?_
     refine t_on trivial ?_
     refine t_up1 8 (by kernel_rfl) ?_
     refine up_mk rfl ?_
     refine s_call rfl (rFlags A4 m _ d.pend _ (hr.pend.nilF.later H.only (by simp)) (by have := hok.hp; omega) hm) (ca112 rfl) ?_
     rintro e W1 ⟨B3, b3, c3', rfl, hb3, H'⟩
     refine ⟨_, rfl, ?_⟩
     have H := H.more H'; clear H'; simp only [List.cons_append, List.nil_append] at H
     refine k_nil ?_
     refine t_on trivial ?_
     refine t_up1 10 (by kernel_rfl) ?_
     refine up_mk rfl ?_
     refine s_st (u := .slice _ _ _) H 4 rfl rfl rfl rfl rfl rfl sz52 ?_
     clear H; intro _ H; simp only [jA, jB, jC, jD, jE, jF, jG, jH, jI, jJ, jK, Nat.reduceAdd] at H
     refine k_nil ?_
     refine t_on trivial ?_
     refine tqn 11 rfl rfl rfl (fun _ hS => r_fa0 rfl fo55_3) trivial ?_
     refine t_up1 12 (by kernel_rfl) ?_
     refine up_mk rfl ?_
     refine s_st (u := .slice _ _ _) H 4 rfl rfl rfl rfl rfl rfl sz53 ?_
     clear H; intro _ H; simp only [jA, jB, jC, jD, jE, jF, jG, jH, jI, jJ, jK, Nat.reduceAdd] at H
     refine k_nil ?_
     refine t_on trivial ?_
     refine tqn 13 rfl rfl rfl (fun _ hS => r_fa0 rfl fo55_4) trivial ?_
     refine t_up1 14 (by kernel_rfl) ?_
     refine up_mk rfl ?_
     refine s_st (u := .slice _ _ _) H 4 rfl rfl rfl rfl rfl rfl sz53 ?_
     clear H; intro _ H; simp only [jA, jB, jC, jD, jE, jF, jG, jH, jI, jJ, jK, Nat.reduceAdd] at H
     refine k_nil ?_
     refine t_on trivial ?_
     refine t_done (by kernel_rfl) ?_
     refine k_met ?_
     exact ⟨_, _, _, _, _, _, _, _, _, hb1, hb2, hb3, rfl, rfl, H⟩
   ·refine up_mk rfl ?_
    refine s_run rfl rfl (r_lo H 1 rfl rfl rfl ag53) ?_
    refine k_nil ?_
    refine t_on trivial ?_
    refine t_up2 2 4 (by kernel_rfl) ?_ ?_
    ·refine up_mk rfl ?_
     refine s_call rfl (rLines A1 m _ d.last _ (hr.last.nilF.later H.only (by simp)) (by have := hok.hl; omega) hm) (ca111 rfl) ?_
     rintro e W1 ⟨B1, b1, c1', rfl, hb1, H'⟩
     refine ⟨_, rfl, ?_⟩
     have H := H.more H'; clear H'; simp only [List.cons_append, List.nil_append] at H
     refine k_nil ?_
     refine t_on trivial ?_
     refine t_up1 4 (by kernel_rfl) ?_
     refine up_mk rfl ?_
     refine s_run rfl rfl (r_lo H 2 rfl rfl rfl ag53) ?_
     refine k_nil ?_
     refine t_on trivial ?_
     refine tqn 9 rfl rfl rfl (fun _ hS => r_fa0 rfl fo55_1) trivial ?_
     refine t_up1 5 (by kernel_rfl) ?_
     refine up_mk rfl ?_
     refine s_call rfl (rFlags A3 m _ d.dirty _ (hr.dirty.nilF.later H.only (by simp)) (by have := hok.hd; omega) hm) (ca112 rfl) ?_
     rintro e W1 ⟨B2, b2, c2', rfl, hb2, H'⟩
     refine ⟨_, rfl, ?_⟩
     have H := H.more H'; clear H'; simp only [List.cons_append, List.nil_append] at H
     refine k_nil ?_
     refine t_on trivial ?_
     refine t_up1 8 (by kernel_rfl) ?_
     refine up_mk rfl ?_
     refine s_call rfl (rFlags A4 m _ d.pend _ (hr.pend.nilF.later H.only (by simp)) (by have := hok.hp; omega) hm) (ca112 rfl) ?_
     rintro e W1 ⟨B3, b3, c3', rfl, hb3, H'⟩
     refine ⟨_, rfl, ?_⟩
     have H := H.more H'; clear H'; simp only [List.cons_append, List.nil_append] at H
     refine k_nil ?_
     refine t_on trivial ?_
     refine t_up1 10 (by kernel_rfl) ?_
     refine up_mk rfl ?_
     refine s_st (u := .slice _ _ _) H 4 rfl rfl rfl rfl rfl rfl sz52 ?_
     clear H; intro _ H; simp only [jA, jB, jC, jD, jE, jF, jG, jH, jI, jJ, jK, Nat.reduceAdd] at H
     refine k_nil ?_
     refine t_on trivial ?_
     refine tqn 11 rfl rfl rfl (fun _ hS => r_fa0 rfl fo55_3) trivial ?_
     refine t_up1 12 (by kernel_rfl) ?_
     refine up_mk rfl ?_
     refine s_st (u := .slice _ _ _) H 4 rfl rfl rfl rfl rfl rfl sz53 ?_
     clear H; intro _ H; simp only [jA, jB, jC, jD, jE, jF, jG, jH, jI, jJ, jK, Nat.reduceAdd] at H
     refine k_nil ?_
     refine t_on trivial ?_
     refine tqn 13 rfl rfl rfl (fun _ hS => r_fa0 rfl fo55_4) trivial ?_
     refine t_up1 14 (by kernel_rfl) ?_
     refine up_mk rfl ?_
     refine s_st (u := .slice _ _ _) H 4 rfl rfl rfl rfl rfl rfl sz53 ?_
     clear H; intro _ H; simp only [jA, jB, jC, jD, jE, jF, jG, jH, jI, jJ, jK, Nat.reduceAdd] at H
     refine k_nil ?_
     refine t_on trivial ?_
     refine t_done (by kernel_rfl) ?_
     refine k_met ?_
     exact ⟨_, _, _, _, _, _, _, _, _, hb1, hb2, hb3, rfl, rfl, H⟩
    ·refine up_mk rfl ?_
     refine s_run rfl rfl (r_lo H 1 rfl rfl rfl ag53) ?_
     refine k_nil ?_
     refine t_on trivial ?_
     refine t_up1 2 (by kernel_rfl) ?_
     refine up_mk rfl ?_
     refine s_call rfl (rLines A1 m _ d.last _ (hr.last.nilF.later H.only (by simp)) (by have := hok.hl; omega) hm) (ca111 rfl) ?_
     rintro e W1 ⟨B1, b1, c1', rfl, hb1, H'⟩
     refine ⟨_, rfl, ?_⟩
     have H := H.more H'; clear H'; simp only [List.cons_append, List.nil_append] at H
     refine k_nil ?_
     refine t_on trivial ?_
     refine tqn 9 rfl rfl rfl (fun _ hS => r_fa0 rfl fo55_1) trivial ?_
     refine t_up1 5 (by kernel_rfl) ?_
     refine up_mk rfl ?_
     refine s_call rfl (rFlags A3 m _ d.dirty _ (hr.dirty.nilF.later H.only (by simp)) (by have := hok.hd; omega) hm) (ca112 rfl) ?_
     rintro e W1 ⟨B2, b2, c2', rfl, hb2, H'⟩
     refine ⟨_, rfl, ?_⟩
     have H := H.more H'; clear H'; simp only [List.cons_append, List.nil_append] at H
     refine k_nil ?_
     refine t_on trivial ?_
     refine t_up1 8 (by kernel_rfl) ?_
     refine up_mk rfl ?_
     refine s_call rfl (rFlags A4 m _ d.pend _ (hr.pend.nilF.later H.only (by simp)) (by have := hok.hp; omega) hm) (ca112 rfl) ?_
     rintro e W1 ⟨B3, b3, c3', rfl, hb3, H'⟩
     refine ⟨_, rfl, ?_⟩
     have H := H.more H'; clear H'; simp only [List.cons_append, List.nil_append] at H
     refine k_nil ?_
     refine t_on trivial ?_
     refine t_up1 10 (by kernel_rfl) ?_
     refine up_mk rfl ?_
     refine s_st (u := .slice _ _ _) H 4 rfl rfl rfl rfl rfl rfl sz52 ?_
     clear H; intro _ H; simp only [jA, jB, jC, jD, jE, jF, jG, jH, jI, jJ, jK, Nat.reduceAdd] at H
     refine k_nil ?_
     refine t_on trivial ?_
     refine tqn 11 rfl rfl rfl (fun _ hS => r_fa0 rfl fo55_3) trivial ?_
     refine t_up1 12 (by kernel_rfl) ?_
     refine up_mk rfl ?_
     refine s_st (u := .slice _ _ _) H 4 rfl rfl rfl rfl rfl rfl sz53 ?_
     clear H; intro _ H; simp only [jA, jB, jC, jD, jE, jF, jG, jH, jI, jJ, jK, Nat.reduceAdd] at H
     refine k_nil ?_
     refine t_on trivial ?_
     refine tqn 13 rfl rfl rfl (fun _ hS => r_fa0 rfl fo55_4) trivial ?_
     refine t_up1 14 (by kernel_rfl) ?_
     refine up_mk rfl ?_
     refine s_st (u := .slice _ _ _) H 4 rfl rfl rfl rfl rfl rfl sz53 ?_
     clear H; intro _ H; simp only [jA, jB, jC, jD, jE, jF, jG, jH, jI, jJ, jK, Nat.reduceAdd] at H
     refine k_nil ?_
     refine t_on trivial ?_
     refine t_done (by kernel_rfl) ?_
     refine k_met ?_
     exact ⟨_, _, _, _, _, _, _, _, _, hb1, hb2, hb3, rfl, rfl, H⟩
  ·refine up_mk rfl ?_
   refine s_run rfl rfl (r_lo H 1 rfl rfl rfl ag53) ?_
   refine k_nil ?_
   refine t_on trivial ?_
   refine t_up2 1 7 (by kernel_rfl) ?_ ?_
   ·refine up_mk rfl ?_
    refine s_run rfl rfl (r_lo H 1 rfl rfl rfl ag52) ?_
    refine k_nil ?_
    refine t_on trivial ?_
    refine t_up2 2 7 (by kernel_rfl) ?_ ?_
    ·refine up_mk rfl ?_
     refine s_call rfl (rLines A1 m _ d.last _ (hr.last.nilF.later H.only (by simp)) (by have := hok.hl; omega) hm) (ca111 rfl) ?_
     rintro e W1 ⟨B1, b1, c1', rfl, hb1, H'⟩
     refine ⟨_, rfl, ?_⟩
     have H := H.more H'; clear H'; simp only [List.cons_append, List.nil_append] at H
     refine k_nil ?_
     refine t_on trivial ?_
     refine t_up2 5 7 (by kernel_rfl) ?_ ?_
     ·refine up_mk rfl ?_
      refine s_call rfl (rFlags A3 m _ d.dirty _ (hr.dirty.nilF.later H.only (by simp)) (by have := hok.hd; omega) hm) (ca112 rfl) ?_
      rintro e W1 ⟨B2, b2, c2', rfl, hb2, H'⟩
      refine ⟨_, rfl, ?_⟩
      have H := H.more H'; clear H'; simp only [List.cons_append, List.nil_append] at H
      refine k_nil ?_
      refine t_on trivial ?_
      refine t_up1 7 (by kernel_rfl) ?_
      refine up_mk rfl ?_
      refine s_run rfl rfl (r_lo H 3 rfl rfl rfl ag53) ?_
      refine k_nil ?_
      refine t_on trivial ?_
      refine tqn 9 rfl rfl rfl (fun _ hS => r_fa0 rfl fo55_1) trivial ?_
      refine t_up1 8 (by kernel_rfl) ?_
      refine up_mk rfl ?_
      refine s_call rfl (rFlags A4 m _ d.pend _ (hr.pend.nilF.later H.only (by simp)) (by have := hok.hp; omega) hm) (ca112 rfl) ?_
      rintro e W1 ⟨B3, b3, c3', rfl, hb3, H'⟩
      refine ⟨_, rfl, ?_⟩
      have H := H.more H'; clear H'; simp only [List.cons_append, List.nil_append] at H
      refine k_nil ?_
      refine t_on trivial ?_
      refine t_up1 10 (by kernel_rfl) ?_
      refine up_mk rfl ?_
      refine s_st (u := .slice _ _ _) H 4 rfl rfl rfl rfl rfl rfl sz52 ?_
      clear H; intro _ H; simp only [jA, jB, jC, jD, jE, jF, jG, jH, jI, jJ, jK, Nat.reduceAdd] at H
      refine k_nil ?_
      refine t_on trivial ?_
      refine tqn 11 rfl rfl rfl (fun _ hS => r_fa0 rfl fo55_3) trivial ?_
      refine t_up1 12 (by kernel_rfl) ?_
      refine up_mk rfl ?_
      refine s_st (u := .slice _ _ _) H 4 rfl rfl rfl rfl rfl rfl sz53 ?_
      clear H; intro _ H; simp only [jA, jB, jC, jD, jE, jF, jG, jH, jI, jJ, jK, Nat.reduceAdd] at H
      refine k_nil ?_
      refine t_on trivial ?_
      refine tqn 13 rfl rfl rfl (fun _ hS => r_fa0 rfl fo55_4) trivial ?_
      refine t_up1 14 (by kernel_rfl) ?_
      refine up_mk rfl ?_
      refine s_st (u := .slice _ _ _) H 4 rfl rfl rfl rfl rfl rfl sz53 ?_
      clear H; intro _ H; simp only [jA, jB, jC, jD, jE, jF, jG, jH, jI, jJ, jK, Nat.reduceAdd] at H
      refine k_nil ?_
      refine t_on trivial ?_
      refine t_done (by kernel_rfl) ?_
      refine k_met ?_
      exact ⟨_, _, _, _, _, _, _, _, _, hb1, hb2, hb3, rfl, rfl, H⟩
     ·refine up_mk rfl ?_
      refine s_run rfl rfl (r_lo H 2 rfl rfl rfl ag53) ?_
      refine k_nil ?_
      refine t_on trivial ?_
      refine tqn 9 rfl rfl rfl (fun _ hS => r_fa0 rfl fo55_1) trivial ?_
      refine t_up1 5 (by kernel_rfl) ?_
      refine up_mk rfl ?_
      refine s_call rfl (rFlags A3 m _ d.dirty _ (hr.dirty.nilF.later H.only (by simp)) (by have := hok.hd; omega) hm) (ca112 rfl) ?_
      rintro e W1 ⟨B2, b2, c2', rfl, hb2, H'⟩
      refine ⟨_, rfl, ?_⟩
      have H := H.more H'; clear H'; simp only [List.cons_append, List.nil_append] at H
      refine k_nil ?_
      refine t_on trivial ?_
      refine t_up1 8 (by kernel_rfl) ?_
      refine up_mk rfl ?_
      refine s_call rfl (rFlags A4 m _ d.pend _ (hr.pend.nilF.later H.only (by simp)) (by have := hok.hp; omega) hm) (ca112 rfl) ?_
      rintro e W1 ⟨B3, b3, c3', rfl, hb3, H'⟩
      refine ⟨_, rfl, ?_⟩
      have H := H.more H'; clear H'; simp only [List.cons_append, List.nil_append] at H
      refine k_nil ?_
      refine t_on trivial ?_
      refine t_up1 10 (by kernel_rfl) ?_
      refine up_mk rfl ?_
      refine s_st (u := .slice _ _ _) H 4 rfl rfl rfl rfl rfl rfl sz52 ?_
      clear H; intro _ H; simp only [jA, jB, jC, jD, jE, jF, jG, jH, jI, jJ, jK, Nat.reduceAdd] at H
      refine k_nil ?_
      refine t_on trivial ?_
      refine tqn 11 rfl rfl rfl (fun _ hS => r_fa0 rfl fo55_3) trivial ?_
      refine t_up1 12 (by kernel_rfl) ?_
      refine up_mk rfl ?_
      refine s_st (u := .slice _ _ _) H 4 rfl rfl rfl rfl rfl rfl sz53 ?_
      clear H; intro _ H; simp only [jA, jB, jC, jD, jE, jF, jG, jH, jI, jJ, jK, Nat.reduceAdd] at H
      refine k_nil ?_
      refine t_on trivial ?_
      refine tqn 13 rfl rfl rfl (fun _ hS => r_fa0 rfl fo55_4) trivial ?_
      refine t_up1 14 (by kernel_rfl) ?_
      refine up_mk rfl ?_
      refine s_st (u := .slice _ _ _) H 4 rfl rfl rfl rfl rfl rfl sz53 ?_
      clear H; intro _ H; simp only [jA, jB, jC, jD, jE, jF, jG, jH, jI, jJ, jK, Nat.reduceAdd] at H
      refine k_nil ?_
      refine t_on trivial ?_
      refine t_done (by kernel_rfl) ?_
      refine k_met ?_
      exact ⟨_, _, _, _, _, _, _, _, _, hb1, hb2, hb3, rfl, rfl, H⟩
    ·refine up_mk rfl ?_
     refine s_run rfl rfl (r_lo H 1 rfl rfl rfl ag53) ?_
     refine k_nil ?_
     refine t_on trivial ?_
     refine t_up1 2 (by kernel_rfl) ?_
     refine up_mk rfl ?_
     refine s_call rfl (rLines A1 m _ d.last _ (hr.last.nilF.later H.only (by simp)) (by have := hok.hl; omega) hm) (ca111 rfl) ?_
     rintro e W1 ⟨B1, b1, c1', rfl, hb1, H'⟩
     refine ⟨_, rfl, ?_⟩
     have H := H.more H'; clear H'; simp only [List.cons_append, List.nil_append] at H
     refine k_nil ?_
     refine t_on trivial ?_
     refine tqn 9 rfl rfl rfl (fun _ hS => r_fa0 rfl fo55_1) trivial ?_
     refine t_up1 5 (by kernel_rfl) ?_
     refine up_mk rfl ?_
     refine s_call rfl (rFlags A3 m _ d.dirty _ (hr.dirty.nilF.later H.only (by simp)) (by have := hok.hd; omega) hm) (ca112 rfl) ?_
     rintro e W1 ⟨B2, b2, c2', rfl, hb2, H'⟩
     refine ⟨_, rfl, ?_⟩
     have H := H.more H'; clear H'; simp only [List.cons_append, List.nil_append] at H
     refine k_nil ?_
     refine t_on trivial ?_
     refine t_up1 8 (by kernel_rfl) ?_
     refine up_mk rfl ?_
     refine s_call rfl (rFlags A4 m _ d.pend _ (hr.pend.nilF.later H.only (by simp)) (by have := hok.hp; omega) hm) (ca112 rfl) ?_
     rintro e W1 ⟨B3, b3, c3', rfl, hb3, H'⟩
     refine ⟨_, rfl, ?_⟩
     have H := H.more H'; clear H'; simp only [List.cons_append, List.nil_append] at H
     refine k_nil ?_
     refine t_on trivial ?_
     refine t_up1 10 (by kernel_rfl) ?_
     refine up_mk rfl ?_
     refine s_st (u := .slice _ _ _) H 4 rfl rfl rfl rfl rfl rfl sz52 ?_
     clear H; intro _ H; simp only [jA, jB, jC, jD, jE, jF, jG, jH, jI, jJ, jK, Nat.reduceAdd] at H
     refine k_nil ?_
     refine t_on trivial ?_
     refine tqn 11 rfl rfl rfl (fun _ hS => r_fa0 rfl fo55_3) trivial ?_
     refine t_up1 12 (by kernel_rfl) ?_
     refine up_mk rfl ?_
     refine s_st (u := .slice _ _ _) H 4 rfl rfl rfl rfl rfl rfl sz53 ?_
     clear H; intro _ H; simp only [jA, jB, jC, jD, jE, jF, jG, jH, jI, jJ, jK, Nat.reduceAdd] at H
     refine k_nil ?_
     refine t_on trivial ?_
     refine tqn 13 rfl rfl rfl (fun _ hS => r_fa0 rfl fo55_4) trivial ?_
     refine t_up1 14 (by kernel_rfl) ?_
     refine up_mk rfl ?_
     refine s_st (u := .slice _ _ _) H 4 rfl rfl rfl rfl rfl rfl sz53 ?_
     clear H; intro _ H; simp only [jA, jB, jC, jD, jE, jF, jG, jH, jI, jJ, jK, Nat.reduceAdd] at H
     refine k_nil ?_
     refine t_on trivial ?_
     refine t_done (by kernel_rfl) ?_
     refine k_met ?_
     exact ⟨_, _, _, _, _, _, _, _, _, hb1, hb2, hb3, rfl, rfl, H⟩
   ·refine up_mk rfl ?_
    refine s_run rfl rfl (r_lo H 1 rfl rfl rfl ag53) ?_
    refine k_nil ?_
    refine t_on trivial ?_
    refine t_up1 1 (by kernel_rfl) ?_
    refine up_mk rfl ?_
    refine s_run rfl rfl (r_lo H 1 rfl rfl rfl ag52) ?_
    refine k_nil ?_
    refine t_on trivial ?_
    refine t_up1 2 (by kernel_rfl) ?_
    refine up_mk rfl ?_
    refine s_call rfl (rLines A1 m _ d.last _ (hr.last.nilF.later H.only (by simp)) (by have := hok.hl; omega) hm) (ca111 rfl) ?_
    rintro e W1 ⟨B1, b1, c1', rfl, hb1, H'⟩
    refine ⟨_, rfl, ?_⟩
    have H := H.more H'; clear H'; simp only [List.cons_append, List.nil_append] at H
    refine k_nil ?_
    refine t_on trivial ?_
    refine tqn 9 rfl rfl rfl (fun _ hS => r_fa0 rfl fo55_1) trivial ?_
    refine t_up1 5 (by kernel_rfl) ?_
    refine up_mk rfl ?_
    refine s_call rfl (rFlags A3 m _ d.dirty _ (hr.dirty.nilF.later H.only (by simp)) (by have := hok.hd; omega) hm) (ca112 rfl) ?_
    rintro e W1 ⟨B2, b2, c2', rfl, hb2, H'⟩
    refine ⟨_, rfl, ?_⟩
    have H := H.more H'; clear H'; simp only [List.cons_append, List.nil_append] at H
    refine k_nil ?_
    refine t_on trivial ?_
    refine t_up1 8 (by kernel_rfl) ?_
    refine up_mk rfl ?_
    refine s_call rfl (rFlags A4 m _ d.pend _ (hr.pend.nilF.later H.only (by simp)) (by have := hok.hp; omega) hm) (ca112 rfl) ?_
    rintro e W1 ⟨B3, b3, c3', rfl, hb3, H'⟩
    refine ⟨_, rfl, ?_⟩
    have H := H.more H'; clear H'; simp only [List.cons_append, List.nil_append] at H
    refine k_nil ?_
    refine t_on trivial ?_
    refine t_up1 10 (by kernel_rfl) ?_
    refine up_mk rfl ?_
    refine s_st (u := .slice _ _ _) H 4 rfl rfl rfl rfl rfl rfl sz52 ?_
    clear H; intro _ H; simp only [jA, jB, jC, jD, jE, jF, jG, jH, jI, jJ, jK, Nat.reduceAdd] at H
    refine k_nil ?_
    refine t_on trivial ?_
    refine tqn 11 rfl rfl rfl (fun _ hS => r_fa0 rfl fo55_3) trivial ?_
    refine t_up1 12 (by kernel_rfl) ?_
    refine up_mk rfl ?_
    refine s_st (u := .slice _ _ _) H 4 rfl rfl rfl rfl rfl rfl sz53 ?_
    clear H; intro _ H; simp only [jA, jB, jC, jD, jE, jF, jG, jH, jI, jJ, jK, Nat.reduceAdd] at H
    refine k_nil ?_
    refine t_on trivial ?_
    refine tqn 13 rfl rfl rfl (fun _ hS => r_fa0 rfl fo55_4) trivial ?_
    refine t_up1 14 (by kernel_rfl) ?_
    refine up_mk rfl ?_
    refine s_st (u := .slice _ _ _) H 4 rfl rfl rfl rfl rfl rfl sz53 ?_
    clear H; intro _ H; simp only [jA, jB, jC, jD, jE, jF, jG, jH, jI, jJ, jK, Nat.reduceAdd] at H
    refine k_nil ?_
    refine t_on trivial ?_
    refine t_done (by kernel_rfl) ?_
    refine k_met ?_
    exact ⟨_, _, _, _, _, _, _, _, _, hb1, hb2, hb3, rfl, rfl, H⟩
  ·refine up_mk rfl ?_
   refine s_run rfl rfl (r_lo H 1 rfl rfl rfl ag53) ?_
   refine k_nil ?_
   refine t_on trivial ?_
   refine t_up2 1 4 (by kernel_rfl) ?_ ?_
   ·refine up_mk rfl ?_
    refine s_run rfl rfl (r_lo H 1 rfl rfl rfl ag52) ?_
    refine k_nil ?_
    refine t_on trivial ?_
    refine t_up2 2 4 (by kernel_rfl) ?_ ?_
    ·refine up_mk rfl ?_
     refine s_call rfl (rLines A1 m _ d.last _ (hr.last.nilF.later H.only (by simp)) (by have := hok.hl; omega) hm) (ca111 rfl) ?_
     rintro e W1 ⟨B1, b1, c1', rfl, hb1, H'⟩
     refine ⟨_, rfl, ?_⟩
     have H := H.more H'; clear H'; simp only [List.cons_append, List.nil_append] at H
     refine k_nil ?_
     refine t_on trivial ?_
     refine t_up1 4 (by kernel_rfl) ?_
     refine up_mk rfl ?_
     refine s_run rfl rfl (r_lo H 2 rfl rfl rfl ag53) ?_
     refine k_nil ?_
     refine t_on trivial ?_
     refine tqn 9 rfl rfl rfl (fun _ hS => r_fa0 rfl fo55_1) trivial ?_
     refine t_up1 5 (by kernel_rfl) ?_
     refine up_mk rfl ?_
     refine s_call rfl (rFlags A3 m _ d.dirty _ (hr.dirty.nilF.later H.only (by simp)) (by have := hok.hd; omega) hm) (ca112 rfl) ?_
     rintro e W1 ⟨B2, b2, c2', rfl, hb2, H'⟩
     refine ⟨_, rfl, ?_⟩
     have H := H.more H'; clear H'; simp only [List.cons_append, List.nil_append] at H
     refine k_nil ?_
     refine t_on trivial ?_
     refine t_up1 8 (by kernel_rfl) ?_
     refine up_mk rfl ?_
     refine s_call rfl (rFlags A4 m _ d.pend _ (hr.pend.nilF.later H.only (by simp)) (by have := hok.hp; omega) hm) (ca112 rfl) ?_
     rintro e W1 ⟨B3, b3, c3', rfl, hb3, H'⟩
     refine ⟨_, rfl, ?_⟩
     have H := H.more H'; clear H'; simp only [List.cons_append, List.nil_append] at H
     refine k_nil ?_
     refine t_on trivial ?_
     refine t_up1 10 (by kernel_rfl) ?_
     refine up_mk rfl ?_
     refine s_st (u := .slice _ _ _) H 4 rfl rfl rfl rfl rfl rfl sz52 ?_
     clear H; intro _ H; simp only [jA, jB, jC, jD, jE, jF, jG, jH, jI, jJ, jK, Nat.reduceAdd] at H
     refine k_nil ?_
     refine t_on trivial ?_
     refine tqn 11 rfl rfl rfl (fun _ hS => r_fa0 rfl fo55_3) trivial ?_
     refine t_up1 12 (by kernel_rfl) ?_
     refine up_mk rfl ?_
     refine s_st (u := .slice _ _ _) H 4 rfl rfl rfl rfl rfl rfl sz53 ?_
     clear H; intro _ H; simp only [jA, jB, jC, jD, jE, jF, jG, jH, jI, jJ, jK, Nat.reduceAdd] at H
     refine k_nil ?_
     refine t_on trivial ?_
     refine tqn 13 rfl rfl rfl (fun _ hS => r_fa0 rfl fo55_4) trivial ?_
     refine t_up1 14 (by kernel_rfl) ?_
     refine up_mk rfl ?_
     refine s_st (u := .slice _ _ _) H 4 rfl rfl rfl rfl rfl rfl sz53 ?_
     clear H; intro _ H; simp only [jA, jB, jC, jD, jE, jF, jG, jH, jI, jJ, jK, Nat.reduceAdd] at H
     refine k_nil ?_
     refine t_on trivial ?_
     refine t_done (by kernel_rfl) ?_
     refine k_met ?_
     exact ⟨_, _, _, _, _, _, _, _, _, hb1, hb2, hb3, rfl, rfl, H⟩
    ·refine up_mk rfl ?_
     refine s_run rfl rfl (r_lo H 1 rfl rfl rfl ag53) ?_
     refine k_nil ?_
     refine t_on trivial ?_
     refine t_up1 2 (by kernel_rfl) ?_
     refine up_mk rfl ?_
     refine s_call rfl (rLines A1 m _ d.last _ (hr.last.nilF.later H.only (by simp)) (by have := hok.hl; omega) hm) (ca111 rfl) ?_
     rintro e W1 ⟨B1, b1, c1', rfl, hb1, H'⟩
     refine ⟨_, rfl, ?_⟩
     have H := H.more H'; clear H'; simp only [List.cons_append, List.nil_append] at H
     refine k_nil ?_
     refine t_on trivial ?_
     refine tqn 9 rfl rfl rfl (fun _ hS => r_fa0 rfl fo55_1) trivial ?_
     refine t_up1 5 (by kernel_rfl) ?_
     refine up_mk rfl ?_
     refine s_call rfl (rFlags A3 m _ d.dirty _ (hr.dirty.nilF.later H.only (by simp)) (by have := hok.hd; omega) hm) (ca112 rfl) ?_
     rintro e W1 ⟨B2, b2, c2', rfl, hb2, H'⟩
     refine ⟨_, rfl, ?_⟩
     have H := H.more H'; clear H'; simp only [List.cons_append, List.nil_append] at H
     refine k_nil ?_
     refine t_on trivial ?_
     refine t_up1 8 (by kernel_rfl) ?_
     refine up_mk rfl ?_
     refine s_call rfl (rFlags A4 m _ d.pend _ (hr.pend.nilF.later H.only (by simp)) (by have := hok.hp; omega) hm) (ca112 rfl) ?_
     rintro e W1 ⟨B3, b3, c3', rfl, hb3, H'⟩
     refine ⟨_, rfl, ?_⟩
     have H := H.more H'; clear H'; simp only [List.cons_append, List.nil_append] at H
     refine k_nil ?_
     refine t_on trivial ?_
     refine t_up1 10 (by kernel_rfl) ?_
     refine up_mk rfl ?_
     refine s_st (u := .slice _ _ _) H 4 rfl rfl rfl rfl rfl rfl sz52 ?_
     clear H; intro _ H; simp only [jA, jB, jC, jD, jE, jF, jG, jH, jI, jJ, jK, Nat.reduceAdd] at H
     refine k_nil ?_
     refine t_on trivial ?_
     refine tqn 11 rfl rfl rfl (fun _ hS => r_fa0 rfl fo55_3) trivial ?_
     refine t_up1 12 (by kernel_rfl) ?_
     refine up_mk rfl ?_
     refine s_st (u := .slice _ _ _) H 4 rfl rfl rfl rfl rfl rfl sz53 ?_
     clear H; intro _ H; simp only [jA, jB, jC, jD, jE, jF, jG, jH, jI, jJ, jK, Nat.reduceAdd] at H
     refine k_nil ?_
     refine t_on trivial ?_
     refine tqn 13 rfl rfl rfl (fun _ hS => r_fa0 rfl fo55_4) trivial ?_
     refine t_up1 14 (by kernel_rfl) ?_
     refine up_mk rfl ?_
     refine s_st (u := .slice _ _ _) H 4 rfl rfl rfl rfl rfl rfl sz53 ?_
     clear H; intro _ H; simp only [jA, jB, jC, jD, jE, jF, jG, jH, jI, jJ, jK, Nat.reduceAdd] at H
     refine k_nil ?_
     refine t_on trivial ?_
     refine t_done (by kernel_rfl) ?_
     refine k_met ?_
     exact ⟨_, _, _, _, _, _, _, _, _, hb1, hb2, hb3, rfl, rfl, H⟩
   ·refine up_mk rfl ?_
    refine s_run rfl rfl (r_lo H 1 rfl rfl rfl ag53) ?_
    refine k_nil ?_
    refine t_on trivial ?_
    refine t_up1 1 (by kernel_rfl) ?_
    refine up_mk rfl ?_
    refine s_run rfl rfl (r_lo H 1 rfl rfl rfl ag52) ?_
    refine k_nil ?_
    refine t_on trivial ?_
    refine t_up1 2 (by kernel_rfl) ?_
    refine up_mk rfl ?_
    refine s_call rfl (rLines A1 m _ d.last _ (hr.last.nilF.later H.only (by simp)) (by have := hok.hl; omega) hm) (ca111 rfl) ?_
    rintro e W1 ⟨B1, b1, c1', rfl, hb1, H'⟩
    refine ⟨_, rfl, ?_⟩
    have H := H.more H'; clear H'; simp only [List.cons_append, List.nil_append] at H
    refine k_nil ?_
    refine t_on trivial ?_
    refine tqn 9 rfl rfl rfl (fun _ hS => r_fa0 rfl fo55_1) trivial ?_
    refine t_up1 5 (by kernel_rfl) ?_
    refine up_mk rfl ?_
    refine s_call rfl (rFlags A3 m _ d.dirty _ (hr.dirty.nilF.later H.only (by simp)) (by have := hok.hd; omega) hm) (ca112 rfl) ?_
    rintro e W1 ⟨B2, b2, c2', rfl, hb2, H'⟩
    refine ⟨_, rfl, ?_⟩
    have H := H.more H'; clear H'; simp only [List.cons_append, List.nil_append] at H
    refine k_nil ?_
    refine t_on trivial ?_
    refine t_up1 8 (by kernel_rfl) ?_
    refine up_mk rfl ?_
    refine s_call rfl (rFlags A4 m _ d.pend _ (hr.pend.nilF.later H.only (by simp)) (by have := hok.hp; omega) hm) (ca112 rfl) ?_
    rintro e W1 ⟨B3, b3, c3', rfl, hb3, H'⟩
    refine ⟨_, rfl, ?_⟩
    have H := H.more H'; clear H'; simp only [List.cons_append, List.nil_append] at H
    refine k_nil ?_
    refine t_on trivial ?_
    refine t_up1 10 (by kernel_rfl) ?_
    refine up_mk rfl ?_
    refine s_st (u := .slice _ _ _) H 4 rfl rfl rfl rfl rfl rfl sz52 ?_
    clear H; intro _ H; simp only [jA, jB, jC, jD, jE, jF, jG, jH, jI, jJ, jK, Nat.reduceAdd] at H
    refine k_nil ?_
    refine t_on trivial ?_
    refine tqn 11 rfl rfl rfl (fun _ hS => r_fa0 rfl fo55_3) trivial ?_
    refine t_up1 12 (by kernel_rfl) ?_
    refine up_mk rfl ?_
    refine s_st (u := .slice _ _ _) H 4 rfl rfl rfl rfl rfl rfl sz53 ?_
    clear H; intro _ H; simp only [jA, jB, jC, jD, jE, jF, jG, jH, jI, jJ, jK, Nat.reduceAdd] at H
    refine k_nil ?_
    refine t_on trivial ?_
    refine tqn 13 rfl rfl rfl (fun _ hS => r_fa0 rfl fo55_4) trivial ?_
    refine t_up1 14 (by kernel_rfl) ?_
    refine up_mk rfl ?_
    refine s_st (u := .slice _ _ _) H 4 rfl rfl rfl rfl rfl rfl sz53 ?_
    clear H; intro _ H; simp only [jA, jB, jC, jD, jE, jF, jG, jH, jI, jJ, jK, Nat.reduceAdd] at H
    refine k_nil ?_
    refine t_on trivial ?_
    refine t_done (by kernel_rfl) ?_
    refine k_met ?_
    exact ⟨_, _, _, _, _, _, _, _, _, hb1, hb2, hb3, rfl, rfl, H⟩
 clear H
 rintro f' W ⟨B1, b1, c1', B2, b2, c2', B3, b3, c3', hb1, hb2, hb3, h1, h2, H⟩
 obtain ⟨f', rfl⟩ := live2 h1 h2
 clear h1 h2
 refine c_norm ?_
 refine k_seq ?_
 refine k_sg ?_
 refine s_run rfl rfl (rai rfl) ?_
 refine k_nc ?_
 refine k_b ?_
 refine k_loop (fun q f W => ∃ (k : Nat), k ≤ m ∧ q = m - k ∧ f 1 = ptr p1 ∧ f 2 = ptr p2 ∧ f 5 = .int .i64 k ∧ Heap w [] [vec Value.bool b3 (Nv.fenceTo (Nv.stepped d) k).pend 4, vec Value.bool b2 (Nv.fenceTo (Nv.stepped d) k).dirty 4, vec (Value.int .u64) b1 (Nv.fenceTo (Nv.stepped d) k).last 124, blk p2 [.slice none 0 0, .slice none 0 0, .slice none 0 0, .slice none 0 0, .slice none 0 0, .int .i64 0, .int .i64 0, .bool false] 55, blk p1 [.slice A0 m c0, .slice B1 m c1', .slice A2 m c2, .slice B2 m c2', .slice B3 m c3', .int .i64 (Nv.stepped d).steps, .int .i64 rf, .bool (Nv.stepped d).dead] 55] W) m ⟨0, by omega, rfl, rfl, rfl, rfl, H⟩ ?_
 clear H
 rintro q f W ⟨k, hk, rfl, h1, h2, h5, H⟩
 obtain ⟨f, rfl⟩ := live3 h1 h2 h5
 clear h1 h2 h5
 have hok := ho1.fenceTo k hk
 obtain ⟨g1, g2, g3, g4, g5, g6⟩ := Nv.fenceTo_same (Nv.stepped d) k
 by_cases hlt : k < m
 ·obtain rfl := hb1 (by omega)
  obtain rfl := hb2 (by omega)
  obtain rfl := hb3 (by omega)
  have e : Nv.fenceTo (Nv.stepped d) (k + 1) = Nv.fenceLine (Nv.fenceTo (Nv.stepped d) k) k := rfl
  generalize Nv.fenceTo (Nv.stepped d) k = x at hok H e g1 g2 g3 g4 g5 g6
  have hl := hok.hl
  have hc := hok.hc
  have hf := hok.hf
  have hd := hok.hd
  have hp := hok.hp
  by_cases hv : x.pend.getD k false = true
  ·have hv' : x.pend[k]? = some true := by rw [getE (by omega)]; exact congrArg some hv
   have er : Nv.fenceLine x k = { x with last := Nv.setPart x.last k (Nv.part x.fl k), pend := x.pend.set k false, dirty := x.dirty.set k (!Nv.same (Nv.part x.fl k) (Nv.part x.cache k)) } := by rw [Nv.fenceLine, if_pos hv]
   have es : Nv.setPart x.last k (Nv.part x.fl k) = x.last.take (8 * k) ++ (Nv.part x.fl k ++ x.last.drop (8 * k + 8)) := by simp [Nv.setPart]
   obtain ⟨bw, ow, ew, _, hrw⟩ := hr.wait (show d.fl.length ≠ 0 by have : d.fl = x.fl := g1.symm; rw [this]; omega)
   obtain rfl : A2 = some ⟨bw, ow, none⟩ := ew
   obtain ⟨bn, on, en, _, hrn⟩ := hr.now (show d.cache.length ≠ 0 by have : d.cache = x.cache := g2.symm; rw [this]; omega)
   obtain rfl : A0 = some ⟨bn, on, none⟩ := en
   have hrw2 : Reads (Value.int .u64) w bw ow x.fl := by rw [g1]; exact hrw
   have hrn2 : Reads (Value.int .u64) w bn on x.cache := by rw [g2]; exact hrn
   have hpw := reads_part (m := m) (i := k) hrw2 hf hlt
   have hpn := reads_part (m := m) (i := k) hrn2 hc hlt
   refine k_seq ?_
   refine k_sg ?_
   refine s_run rfl rfl (rmi rfl) ?_
   refine s_run rfl rfl (r_fa0 rfl fo55_0) ?_
   refine s_run rfl rfl (r_lo H 4 rfl rfl rfl ag52) ?_
   refine s_run rfl rfl (r_len rfl Try.underlying52) ?_
   refine s_run rfl rfl (r_lssT rfl rfl (by omega)) ?_
   refine s_run rfl rfl (rmb rfl) ?_
   refine s_run rfl (g_on 31 (by kernel_rfl) rfl) (rmi rfl) ?_
   refine s_run rfl (g_on 31 (by kernel_rfl) rfl) (r_fa0 rfl fo55_4) ?_
   refine s_run rfl (g_on 31 (by kernel_rfl) rfl) (r_lo H 4 rfl rfl rfl ag53) ?_
   refine s_run rfl (g_on 31 (by kernel_rfl) rfl) (r_len rfl Try.underlying53) ?_
   refine s_run rfl (g_on 31 (by kernel_rfl) rfl) (r_lssT rfl rfl (by omega)) ?_
   refine s_run rfl rfl (r_pkT (v := .bool _) rfl rfl) ?_
   refine s_run rfl rfl (rmb rfl) ?_
   refine s_run rfl (g_on 38 (by kernel_rfl) rfl) (rmi rfl) ?_
   refine s_run rfl (g_on 38 (by kernel_rfl) rfl) (r_fa0 rfl fo55_1) ?_
   refine s_run rfl (g_on 38 (by kernel_rfl) rfl) (r_lo H 4 rfl rfl rfl ag52) ?_
   refine s_run rfl (g_on 38 (by kernel_rfl) rfl) (r_len rfl Try.underlying52) ?_
   refine s_run rfl (g_on 38 (by kernel_rfl) rfl) (r_lssT rfl rfl (by omega)) ?_
   refine s_run rfl rfl (r_pkT (v := .bool _) rfl rfl) ?_
   refine s_run rfl rfl (rmb rfl) ?_
   refine s_run rfl (g_on 45 (by kernel_rfl) rfl) (rmi rfl) ?_
   refine s_run rfl (g_on 45 (by kernel_rfl) rfl) (r_fa0 rfl fo55_2) ?_
   refine s_run rfl (g_on 45 (by kernel_rfl) rfl) (r_lo H 4 rfl rfl rfl ag52) ?_
   refine s_run rfl (g_on 45 (by kernel_rfl) rfl) (r_len rfl Try.underlying52) ?_
   refine s_run rfl (g_on 45 (by kernel_rfl) rfl) (r_lssT rfl rfl (by omega)) ?_
   refine s_run rfl rfl (r_pkT (v := .bool _) rfl rfl) ?_
   refine s_run rfl rfl (rmb rfl) ?_
   refine s_run rfl (g_on 52 (by kernel_rfl) rfl) (rmi rfl) ?_
   refine s_run rfl (g_on 52 (by kernel_rfl) rfl) (r_fa0 rfl fo55_3) ?_
   refine s_run rfl (g_on 52 (by kernel_rfl) rfl) (r_lo H 4 rfl rfl rfl ag53) ?_
   refine s_run rfl (g_on 52 (by kernel_rfl) rfl) (r_len rfl Try.underlying53) ?_
   refine s_run rfl (g_on 52 (by kernel_rfl) rfl) (r_lssT rfl rfl (by omega)) ?_
   refine s_run rfl rfl (r_pkT (v := .bool _) rfl rfl) ?_
   refine k_nc ?_
   refine k_t rfl ?_
   refine k_skip ?_
   refine c_norm ?_
   refine k_seq ?_
   refine k_b ?_
   refine k_sg ?_
   refine s_run rfl rfl (r_fa0 rfl fo55_4) ?_
   refine s_run rfl rfl (r_lo H 4 rfl rfl rfl ag53) ?_
   refine s_run rfl rfl (rmi rfl) ?_
   refine s_run rfl rfl (r_ix1 rfl rfl rfl (by omega) Try.underlying53 sz4) ?_
   refine s_run rfl rfl (r_lv H 0 rfl rfl (by assumption) ag4) ?_
   refine k_nc ?_
   refine k_t rfl ?_
   refine k_seq ?_
   refine k_qt 9 mixed (by kernel_rfl) H rfl rfl ?_
   refine q_run rfl rfl (fun _ H => r_fa0 rfl fo55_1) ?_
   refine q_run rfl rfl (fun _ H => r_lo H 4 rfl rfl rfl ag52) ?_
   refine q_run rfl rfl (fun _ H => r_mv (v := .int _ _) rfl) ?_
   refine q_run rfl rfl (fun _ H => r_fa0 rfl fo55_2) ?_
   refine q_run rfl rfl (fun _ H => r_lo H 4 rfl rfl rfl ag52) ?_
   refine q_run rfl rfl (fun _ H => r_mv (v := .int _ _) rfl) ?_
   refine q_run rfl rfl (fun _ H => r_ix rfl rfl rfl (by omega) Try.underlying52 sz124) ?_
   refine q_run rfl rfl (fun _ H => r_lA (zs := Nv.part x.fl k) (hpw.later H.only (by simp)) rfl (Nv.length_part (by omega)) ag124 sz124) ?_
   refine q_run rfl rfl (fun _ H => r_ix0 rfl rfl rfl (by omega) Try.underlying52 sz124) ?_
   refine q_nil ?_
   intro _ H'; clear H; have H := H'; clear H'
   refine s_svA (zs := Nv.part x.fl k) H 2 rfl rfl rfl rfl (Nv.length_part (by omega)) (by omega) (fun _ => rfl) sz124 ?_
   clear H; intro _ H; simp only [jA, jB, jC, jD, jE, jF, jG, jH, jI, jJ, jK, Nat.reduceAdd] at H
   refine k_nc ?_
   refine k_sg ?_
   refine s_run rfl rfl (r_fa0 rfl fo55_4) ?_
   refine s_run rfl rfl (r_lo H 4 rfl rfl rfl ag53) ?_
   refine s_run rfl rfl (rmi rfl) ?_
   refine s_run rfl rfl (r_ix1 rfl rfl rfl (by omega) Try.underlying53 sz4) ?_
   refine s_sv (u := .bool _) H 0 rfl rfl rfl rfl rfl (by omega) (fun _ => rfl) sz4 ?_
   clear H; intro _ H; simp only [jA, jB, jC, jD, jE, jF, jG, jH, jI, jJ, jK, Nat.reduceAdd] at H
   refine k_nc ?_
   refine k_qt 15 mixed (by kernel_rfl) H rfl rfl ?_
   refine q_run rfl rfl (fun _ H => r_fa0 rfl fo55_3) ?_
   refine q_run rfl rfl (fun _ H => r_lo H 4 rfl rfl rfl ag53) ?_
   refine q_run rfl rfl (fun _ H => r_mv (v := .int _ _) rfl) ?_
   refine q_run rfl rfl (fun _ H => r_fa0 rfl fo55_0) ?_
   refine q_run rfl rfl (fun _ H => r_lo H 4 rfl rfl rfl ag52) ?_
   refine q_run rfl rfl (fun _ H => r_mv (v := .int _ _) rfl) ?_
   refine q_run rfl rfl (fun _ H => r_ix rfl rfl rfl (by omega) Try.underlying52 sz124) ?_
   refine q_run rfl rfl (fun _ H => r_lA (zs := Nv.part x.cache k) (hpn.later H.only (by simp)) rfl (Nv.length_part (by omega)) ag124 sz124) ?_
   refine q_run rfl rfl (fun _ H => r_fa0 rfl fo55_2) ?_
   refine q_run rfl rfl (fun _ H => r_lo H 4 rfl rfl rfl ag52) ?_
   refine q_run rfl rfl (fun _ H => r_mv (v := .int _ _) rfl) ?_
   refine q_run rfl rfl (fun _ H => r_ix rfl rfl rfl (by omega) Try.underlying52 sz124) ?_
   refine q_run rfl rfl (fun _ H => r_lA (zs := Nv.part x.fl k) (hpw.later H.only (by simp)) rfl (Nv.length_part (by omega)) ag124 sz124) ?_
   refine q_run rfl rfl (fun _ H => r_arrB (q := !Nv.same (Nv.part x.cache k) (Nv.part x.fl k)) rfl rfl (Nv.length_part (by omega)) (Nv.length_part (by omega)) Try.underlying124 Try.underlying22 ⟨_, _, _, inf22⟩ (by kernel_rfl) (by kernel_rfl) rfl) ?_
   refine q_run rfl rfl (fun _ H => r_ix1 rfl rfl rfl (by omega) Try.underlying53 sz4) ?_
   refine q_nil ?_
   intro _ H'; clear H; have H := H'; clear H'
   refine s_sv (u := .bool _) H 1 rfl rfl rfl rfl rfl (by omega) (fun _ => rfl) sz4 ?_
   clear H; intro _ H; simp only [jA, jB, jC, jD, jE, jF, jG, jH, jI, jJ, jK, Nat.reduceAdd] at H
   refine k_nil ?_
   refine b_norm ?_
   refine c_norm ?_
   refine k_rg ?_
   refine s_run rfl rfl (rmi rfl) ?_
   refine s_run rfl rfl (r_add rfl rfl (wI (by omega))) ?_
   refine s_run rfl rfl (rai rfl) ?_
   refine k_nil ?_
   refine c_round ?_
   have e1 : k * 8 = 8 * k := by omega
   rw [e1, ← es, Nv.same_comm] at H
   refine ⟨_, _, ?_, rfl, k + 1, by omega, rfl, rfl, rfl, rfl, ?_⟩
   ·omega
   ·rw [e, er]; exact H
  ·have hv' : x.pend[k]? = some false := by rw [getE (by omega)]; exact congrArg some (by simpa using hv)
   have er : Nv.fenceLine x k = x := by rw [Nv.fenceLine, if_neg hv]
   refine k_seq ?_
   refine k_sg ?_
   refine s_run rfl rfl (rmi rfl) ?_
   refine s_run rfl rfl (r_fa0 rfl fo55_0) ?_
   refine s_run rfl rfl (r_lo H 4 rfl rfl rfl ag52) ?_
   refine s_run rfl rfl (r_len rfl Try.underlying52) ?_
   refine s_run rfl rfl (r_lssT rfl rfl (by omega)) ?_
   refine s_run rfl rfl (rmb rfl) ?_
   refine s_run rfl (g_on 31 (by kernel_rfl) rfl) (rmi rfl) ?_
   refine s_run rfl (g_on 31 (by kernel_rfl) rfl) (r_fa0 rfl fo55_4) ?_
   refine s_run rfl (g_on 31 (by kernel_rfl) rfl) (r_lo H 4 rfl rfl rfl ag53) ?_
   refine s_run rfl (g_on 31 (by kernel_rfl) rfl) (r_len rfl Try.underlying53) ?_
   refine s_run rfl (g_on 31 (by kernel_rfl) rfl) (r_lssT rfl rfl (by omega)) ?_
   refine s_run rfl rfl (r_pkT (v := .bool _) rfl rfl) ?_
   refine s_run rfl rfl (rmb rfl) ?_
   refine s_run rfl (g_on 38 (by kernel_rfl) rfl) (rmi rfl) ?_
   refine s_run rfl (g_on 38 (by kernel_rfl) rfl) (r_fa0 rfl fo55_1) ?_
   refine s_run rfl (g_on 38 (by kernel_rfl) rfl) (r_lo H 4 rfl rfl rfl ag52) ?_
   refine s_run rfl (g_on 38 (by kernel_rfl) rfl) (r_len rfl Try.underlying52) ?_
   refine s_run rfl (g_on 38 (by kernel_rfl) rfl) (r_lssT rfl rfl (by omega)) ?_
   refine s_run rfl rfl (r_pkT (v := .bool _) rfl rfl) ?_
   refine s_run rfl rfl (rmb rfl) ?_
   refine s_run rfl (g_on 45 (by kernel_rfl) rfl) (rmi rfl) ?_
   refine s_run rfl (g_on 45 (by kernel_rfl) rfl) (r_fa0 rfl fo55_2) ?_
   refine s_run rfl (g_on 45 (by kernel_rfl) rfl) (r_lo H 4 rfl rfl rfl ag52) ?_
   refine s_run rfl (g_on 45 (by kernel_rfl) rfl) (r_len rfl Try.underlying52) ?_
   refine s_run rfl (g_on 45 (by kernel_rfl) rfl) (r_lssT rfl rfl (by omega)) ?_
   refine s_run rfl rfl (r_pkT (v := .bool _) rfl rfl) ?_
   refine s_run rfl rfl (rmb rfl) ?_
   refine s_run rfl (g_on 52 (by kernel_rfl) rfl) (rmi rfl) ?_
   refine s_run rfl (g_on 52 (by kernel_rfl) rfl) (r_fa0 rfl fo55_3) ?_
   refine s_run rfl (g_on 52 (by kernel_rfl) rfl) (r_lo H 4 rfl rfl rfl ag53) ?_
   refine s_run rfl (g_on 52 (by kernel_rfl) rfl) (r_len rfl Try.underlying53) ?_
   refine s_run rfl (g_on 52 (by kernel_rfl) rfl) (r_lssT rfl rfl (by omega)) ?_
   refine s_run rfl rfl (r_pkT (v := .bool _) rfl rfl) ?_
   refine k_nc ?_
   refine k_t rfl ?_
   refine k_skip ?_
   refine c_norm ?_
   refine k_seq ?_
   refine k_b ?_
   refine k_sg ?_
   refine s_run rfl rfl (r_fa0 rfl fo55_4) ?_
   refine s_run rfl rfl (r_lo H 4 rfl rfl rfl ag53) ?_
   refine s_run rfl rfl (rmi rfl) ?_
   refine s_run rfl rfl (r_ix1 rfl rfl rfl (by omega) Try.underlying53 sz4) ?_
   refine s_run rfl rfl (r_lv H 0 rfl rfl (by assumption) ag4) ?_
   refine k_nc ?_
   refine k_f rfl ?_
   refine k_skip ?_
   refine b_norm ?_
   refine c_norm ?_
   refine k_rg ?_
   refine s_run rfl rfl (rmi rfl) ?_
   refine s_run rfl rfl (r_add rfl rfl (wI (by omega))) ?_
   refine s_run rfl rfl (rai rfl) ?_
   refine k_nil ?_
   refine c_round ?_
   refine ⟨_, _, ?_, rfl, k + 1, by omega, rfl, rfl, rfl, rfl, ?_⟩
   ·omega
   ·rw [e, er]; exact H
 ·obtain rfl : k = m := by omega
  refine k_seq ?_
  refine k_sg ?_
  refine s_run rfl rfl (rmi rfl) ?_
  refine s_run rfl rfl (r_fa0 rfl fo55_0) ?_
  refine s_run rfl rfl (r_lo H 4 rfl rfl rfl ag52) ?_
  refine s_run rfl rfl (r_len rfl Try.underlying52) ?_
  refine s_run rfl rfl (r_lssF rfl rfl (by omega)) ?_
  refine s_run rfl rfl (rmb rfl) ?_
  refine s_off rfl (g_off 31 (by kernel_rfl) rfl rfl) ?_
  refine s_off rfl (g_off 31 (by kernel_rfl) rfl rfl) ?_
  refine s_off rfl (g_off 31 (by kernel_rfl) rfl rfl) ?_
  refine s_off rfl (g_off 31 (by kernel_rfl) rfl rfl) ?_
  refine s_off rfl (g_off 31 (by kernel_rfl) rfl rfl) ?_
  refine s_run rfl rfl (r_pkF (v := .bool _) rfl rfl) ?_
  refine s_run rfl rfl (rmb rfl) ?_
  refine s_off rfl (g_off 38 (by kernel_rfl) rfl rfl) ?_
  refine s_off rfl (g_off 38 (by kernel_rfl) rfl rfl) ?_
  refine s_off rfl (g_off 38 (by kernel_rfl) rfl rfl) ?_
  refine s_off rfl (g_off 38 (by kernel_rfl) rfl rfl) ?_
  refine s_off rfl (g_off 38 (by kernel_rfl) rfl rfl) ?_
  refine s_run rfl rfl (r_pkF (v := .bool _) rfl rfl) ?_
  refine s_run rfl rfl (rmb rfl) ?_
  refine s_off rfl (g_off 45 (by kernel_rfl) rfl rfl) ?_
  refine s_off rfl (g_off 45 (by kernel_rfl) rfl rfl) ?_
  refine s_off rfl (g_off 45 (by kernel_rfl) rfl rfl) ?_
  refine s_off rfl (g_off 45 (by kernel_rfl) rfl rfl) ?_
  refine s_off rfl (g_off 45 (by kernel_rfl) rfl rfl) ?_
  refine s_run rfl rfl (r_pkF (v := .bool _) rfl rfl) ?_
  refine s_run rfl rfl (rmb rfl) ?_
  refine s_off rfl (g_off 52 (by kernel_rfl) rfl rfl) ?_
  refine s_off rfl (g_off 52 (by kernel_rfl) rfl rfl) ?_
  refine s_off rfl (g_off 52 (by kernel_rfl) rfl rfl) ?_
  refine s_off rfl (g_off 52 (by kernel_rfl) rfl rfl) ?_
  refine s_off rfl (g_off 52 (by kernel_rfl) rfl rfl) ?_
  refine s_run rfl rfl (r_pkF (v := .bool _) rfl rfl) ?_
  refine k_nc ?_
  refine k_f rfl ?_
  refine k_exit ?_
  refine c_exit ?_
  refine c_exit ?_
  refine b_hit ?_
  refine c_norm ?_
  refine k_sg ?_
  refine s_run rfl rfl (r_la H 4 rfl rfl rfl ag55 sz55) ?_
  refine s_sw H 3 rfl rfl rfl rfl rfl rfl rfl sz55 ?_
  clear H; intro _ H; simp only [jA, jB, jC, jD, jE, jF, jG, jH, jI, jJ, jK, Nat.reduceAdd] at H
  refine s_run rfl rfl (rai rfl) ?_
  refine k_nc ?_
  refine k_ret ?_
  refine fx2r rfl (rv_a H 3 rfl rfl rfl ag55 sz55) (rv_t (v := .int _ _) rfl) ?_
  refine ⟨⟨A0, c0, B1, c1', A2, c2, B2, c2', B3, c3', rf⟩, ?_, H.clear, ⟨?_, ?_, ?_, ?_, ?_, ?_, hok⟩⟩
  ·simp only [refE, g3, g6]
  ·rw [g2]; exact hr.now.later H.only (by simp)
  ·exact H.sees 2 rfl hF hb1 (fun h => by have := hok.hl; omega)
  ·rw [g1]; exact hr.wait.later H.only (by simp)
  ·exact H.sees 1 rfl hF hb2 (fun h => by have := hok.hd; omega)
  ·exact H.sees 0 rfl hF hb3 (fun h => by have := hok.hp; omega)
  ·unfold fuseRel; rw [g4, g5]; exact hf'
end Go.Proofs.Ytmekhdclnhhhbaa
end

section
namespace Go.Proofs.Ytmekhdclnhhhbaa
open Go.RowKit
theorem RefOk.news {w : World} {F G : List Nat} {s : RefS} {d : Nv.D} {m : Nat} (h : RefOk w F s d m) (hG : ∀ i ∈ G, i ∈ F ∨ w.heap.size ≤ i) : RefOk w G s d m :=
 ⟨h.now.news hG, h.last.news hG, h.wait.news hG, h.dirty.news hG, h.pend.news hG, h.fuse, h.ok⟩
theorem rPersist (s : RefS) (d : Nv.D) (m : Nat) (a n : Int) (F : List Nat) (w : World) (hr : RefOk w F s d m) (hF : ∀ i ∈ F, i < w.heap.size) (hm : m ≤ 100000) :
  Calls Try.prog 75 [.agg (refCells s d m).toArray, .int .i64 a, .int .i64 n].toArray w fun e w' => ∃ s', e = .returned (.tuple #[.agg (refCells s' (Nv.persist d m a n).1 m).toArray, .int .i64 (Nv.persist d m a n).2]) ∧ Heap w [] [] w' ∧ RefOk w' F s' (Nv.persist d m a n).1 m := by
 have H := Heap.nil w
 unfold Nv.persist
 by_cases h1 : a < 0
 ·rw [if_pos (.inl h1), refE]
  refine k_in (N := 73) Try.func75 rfl rfl rfl ?_
  refine k_sg ?_
  refine s_box H rfl rfl ?_
  intro p3 _ H'; clear H; have H := H'; clear H'
  refine s_al H rfl inf55 ?_
  intro p6 _ H'; clear H; have H := H'; clear H'
  refine s_run rfl rfl (rai rfl) ?_
  refine k_nc ?_
  refine k_seq ?_
  refine k_sg ?_
  refine s_run rfl rfl (rmi rfl) ?_
  refine s_run rfl rfl (r_lssT rfl rfl (by omega)) ?_
  refine s_run rfl rfl (rmb rfl) ?_
  refine s_off rfl (g_off 12 (by kernel_rfl) rfl rfl) ?_
  refine s_off rfl (g_off 12 (by kernel_rfl) rfl rfl) ?_
  refine s_run rfl rfl (r_pkT (v := .bool _) rfl rfl) ?_
  refine s_run rfl rfl (rmb rfl) ?_
  refine s_off rfl (g_off 16 (by kernel_rfl) rfl rfl) ?_
  refine s_off rfl (g_off 16 (by kernel_rfl) rfl rfl) ?_
  refine s_off rfl (g_off 16 (by kernel_rfl) rfl rfl) ?_
  refine s_off rfl (g_off 16 (by kernel_rfl) rfl rfl) ?_
  refine s_off rfl (g_off 16 (by kernel_rfl) rfl rfl) ?_
  refine s_off rfl (g_off 16 (by kernel_rfl) rfl rfl) ?_
  refine s_run rfl rfl (r_pkT (v := .bool _) rfl rfl) ?_
  refine s_run rfl rfl (rmb rfl) ?_
  refine s_off rfl (g_off 24 (by kernel_rfl) rfl rfl) ?_
  refine s_off rfl (g_off 24 (by kernel_rfl) rfl rfl) ?_
  refine s_off rfl (g_off 24 (by kernel_rfl) rfl rfl) ?_
  refine s_off rfl (g_off 24 (by kernel_rfl) rfl rfl) ?_
  refine s_off rfl (g_off 24 (by kernel_rfl) rfl rfl) ?_
  refine s_off rfl (g_off 24 (by kernel_rfl) rfl rfl) ?_
  refine s_off rfl (g_off 24 (by kernel_rfl) rfl rfl) ?_
  refine s_off rfl (g_off 24 (by kernel_rfl) rfl rfl) ?_
  refine s_run rfl rfl (r_pkT (v := .bool _) rfl rfl) ?_
  refine k_nc ?_
  refine k_t rfl ?_
  refine k_sg ?_
  refine s_run rfl rfl (r_la H 1 rfl rfl rfl ag55 sz55) ?_
  refine s_sw H 0 rfl rfl rfl rfl rfl rfl rfl sz55 ?_
  clear H; intro _ H; simp only [jA, jB, jC, jD, jE, jF, jG, jH, jI, jJ, jK, Nat.reduceAdd] at H
  refine s_run rfl rfl (rai rfl) ?_
  refine k_nc ?_
  refine k_ret ?_
  refine c_ret ?_
  refine fx2r rfl (rv_a H 0 rfl rfl rfl ag55 sz55) (rv_t (v := .int _ _) rfl) ?_
  exact ⟨s, rfl, H.clear, hr.later H.only (by simp)⟩
 by_cases h2 : n < 0
 ·rw [if_pos (.inr (.inl h2)), refE]
  refine k_in (N := 73) Try.func75 rfl rfl rfl ?_
  refine k_sg ?_
  refine s_box H rfl rfl ?_
  intro p3 _ H'; clear H; have H := H'; clear H'
  refine s_al H rfl inf55 ?_
  intro p6 _ H'; clear H; have H := H'; clear H'
  refine s_run rfl rfl (rai rfl) ?_
  refine k_nc ?_
  refine k_seq ?_
  refine k_sg ?_
  refine s_run rfl rfl (rmi rfl) ?_
  refine s_run rfl rfl (r_lssF rfl rfl (by omega)) ?_
  refine s_run rfl rfl (rmb rfl) ?_
  refine s_run rfl (g_on 12 (by kernel_rfl) rfl) (rmi rfl) ?_
  refine s_run rfl (g_on 12 (by kernel_rfl) rfl) (r_lssT rfl rfl (by omega)) ?_
  refine s_run rfl rfl (r_pkF (v := .bool _) rfl rfl) ?_
  refine s_run rfl rfl (rmb rfl) ?_
  refine s_off rfl (g_off 16 (by kernel_rfl) rfl rfl) ?_
  refine s_off rfl (g_off 16 (by kernel_rfl) rfl rfl) ?_
  refine s_off rfl (g_off 16 (by kernel_rfl) rfl rfl) ?_
  refine s_off rfl (g_off 16 (by kernel_rfl) rfl rfl) ?_
  refine s_off rfl (g_off 16 (by kernel_rfl) rfl rfl) ?_
  refine s_off rfl (g_off 16 (by kernel_rfl) rfl rfl) ?_
  refine s_run rfl rfl (r_pkT (v := .bool _) rfl rfl) ?_
  refine s_run rfl rfl (rmb rfl) ?_
  refine s_off rfl (g_off 24 (by kernel_rfl) rfl rfl) ?_
  refine s_off rfl (g_off 24 (by kernel_rfl) rfl rfl) ?_
  refine s_off rfl (g_off 24 (by kernel_rfl) rfl rfl) ?_
  refine s_off rfl (g_off 24 (by kernel_rfl) rfl rfl) ?_
  refine s_off rfl (g_off 24 (by kernel_rfl) rfl rfl) ?_
  refine s_off rfl (g_off 24 (by kernel_rfl) rfl rfl) ?_
  refine s_off rfl (g_off 24 (by kernel_rfl) rfl rfl) ?_
  refine s_off rfl (g_off 24 (by kernel_rfl) rfl rfl) ?_
  refine s_run rfl rfl (r_pkT (v := .bool _) rfl rfl) ?_
  refine k_nc ?_
  refine k_t rfl ?_
  refine k_sg ?_
  refine s_run rfl rfl (r_la H 1 rfl rfl rfl ag55 sz55) ?_
  refine s_sw H 0 rfl rfl rfl rfl rfl rfl rfl sz55 ?_
  clear H; intro _ H; simp only [jA, jB, jC, jD, jE, jF, jG, jH, jI, jJ, jK, Nat.reduceAdd] at H
  refine s_run rfl rfl (rai rfl) ?_
  refine k_nc ?_
  refine k_ret ?_
  refine c_ret ?_
  refine fx2r rfl (rv_a H 0 rfl rfl rfl ag55 sz55) (rv_t (v := .int _ _) rfl) ?_
  exact ⟨s, rfl, H.clear, hr.later H.only (by simp)⟩
 by_cases h3 : 8 * (m : Int) < a
 ·rw [if_pos (.inr (.inr (.inl h3))), refE]
  refine k_in (N := 73) Try.func75 rfl rfl rfl ?_
  refine k_sg ?_
  refine s_box H rfl rfl ?_
  intro p3 _ H'; clear H; have H := H'; clear H'
  refine s_al H rfl inf55 ?_
  intro p6 _ H'; clear H; have H := H'; clear H'
  refine s_run rfl rfl (rai rfl) ?_
  refine k_nc ?_
  refine k_seq ?_
  refine k_sg ?_
  refine s_run rfl rfl (rmi rfl) ?_
  refine s_run rfl rfl (r_lssF rfl rfl (by omega)) ?_
  refine s_run rfl rfl (rmb rfl) ?_
  refine s_run rfl (g_on 12 (by kernel_rfl) rfl) (rmi rfl) ?_
  refine s_run rfl (g_on 12 (by kernel_rfl) rfl) (r_lssF rfl rfl (by omega)) ?_
  refine s_run rfl rfl (r_pkF (v := .bool _) rfl rfl) ?_
  refine s_run rfl rfl (rmb rfl) ?_
  refine s_run rfl (g_on 16 (by kernel_rfl) rfl) (rmi rfl) ?_
  refine s_run rfl (g_on 16 (by kernel_rfl) rfl) (r_fa0 rfl fo55_0) ?_
  refine s_run rfl (g_on 16 (by kernel_rfl) rfl) (r_lo H 1 rfl rfl rfl ag52) ?_
  refine s_run rfl (g_on 16 (by kernel_rfl) rfl) (r_len rfl Try.underlying52) ?_
  refine s_run rfl (g_on 16 (by kernel_rfl) rfl) (r_mul rfl rfl (wI (by omega))) ?_
  refine s_run rfl (g_on 16 (by kernel_rfl) rfl) (r_gtrT rfl rfl (by omega)) ?_
  refine s_run rfl rfl (r_pkF (v := .bool _) rfl rfl) ?_
  refine s_run rfl rfl (rmb rfl) ?_
  refine s_off rfl (g_off 24 (by kernel_rfl) rfl rfl) ?_
  refine s_off rfl (g_off 24 (by kernel_rfl) rfl rfl) ?_
  refine s_off rfl (g_off 24 (by kernel_rfl) rfl rfl) ?_
  refine s_off rfl (g_off 24 (by kernel_rfl) rfl rfl) ?_
  refine s_off rfl (g_off 24 (by kernel_rfl) rfl rfl) ?_
  refine s_off rfl (g_off 24 (by kernel_rfl) rfl rfl) ?_
  refine s_off rfl (g_off 24 (by kernel_rfl) rfl rfl) ?_
  refine s_off rfl (g_off 24 (by kernel_rfl) rfl rfl) ?_
  refine s_run rfl rfl (r_pkT (v := .bool _) rfl rfl) ?_
  refine k_nc ?_
  refine k_t rfl ?_
  refine k_sg ?_
  refine s_run rfl rfl (r_la H 1 rfl rfl rfl ag55 sz55) ?_
  refine s_sw H 0 rfl rfl rfl rfl rfl rfl rfl sz55 ?_
  clear H; intro _ H; simp only [jA, jB, jC, jD, jE, jF, jG, jH, jI, jJ, jK, Nat.reduceAdd] at H
  refine s_run rfl rfl (rai rfl) ?_
  refine k_nc ?_
  refine k_ret ?_
  refine c_ret ?_
  refine fx2r rfl (rv_a H 0 rfl rfl rfl ag55 sz55) (rv_t (v := .int _ _) rfl) ?_
  exact ⟨s, rfl, H.clear, hr.later H.only (by simp)⟩
 by_cases h4 : 8 * (m : Int) - a < n
 ·rw [if_pos (.inr (.inr (.inr h4))), refE]
  refine k_in (N := 73) Try.func75 rfl rfl rfl ?_
  refine k_sg ?_
  refine s_box H rfl rfl ?_
  intro p3 _ H'; clear H; have H := H'; clear H'
  refine s_al H rfl inf55 ?_
  intro p6 _ H'; clear H; have H := H'; clear H'
  refine s_run rfl rfl (rai rfl) ?_
  refine k_nc ?_
  refine k_seq ?_
  refine k_sg ?_
  refine s_run rfl rfl (rmi rfl) ?_
  refine s_run rfl rfl (r_lssF rfl rfl (by omega)) ?_
  refine s_run rfl rfl (rmb rfl) ?_
  refine s_run rfl (g_on 12 (by kernel_rfl) rfl) (rmi rfl) ?_
  refine s_run rfl (g_on 12 (by kernel_rfl) rfl) (r_lssF rfl rfl (by omega)) ?_
  refine s_run rfl rfl (r_pkF (v := .bool _) rfl rfl) ?_
  refine s_run rfl rfl (rmb rfl) ?_
  refine s_run rfl (g_on 16 (by kernel_rfl) rfl) (rmi rfl) ?_
  refine s_run rfl (g_on 16 (by kernel_rfl) rfl) (r_fa0 rfl fo55_0) ?_
  refine s_run rfl (g_on 16 (by kernel_rfl) rfl) (r_lo H 1 rfl rfl rfl ag52) ?_
  refine s_run rfl (g_on 16 (by kernel_rfl) rfl) (r_len rfl Try.underlying52) ?_
  refine s_run rfl (g_on 16 (by kernel_rfl) rfl) (r_mul rfl rfl (wI (by omega))) ?_
  refine s_run rfl (g_on 16 (by kernel_rfl) rfl) (r_gtrF rfl rfl (by omega)) ?_
  refine s_run rfl rfl (r_pkF (v := .bool _) rfl rfl) ?_
  refine s_run rfl rfl (rmb rfl) ?_
  refine s_run rfl (g_on 24 (by kernel_rfl) rfl) (rmi rfl) ?_
  refine s_run rfl (g_on 24 (by kernel_rfl) rfl) (r_fa0 rfl fo55_0) ?_
  refine s_run rfl (g_on 24 (by kernel_rfl) rfl) (r_lo H 1 rfl rfl rfl ag52) ?_
  refine s_run rfl (g_on 24 (by kernel_rfl) rfl) (r_len rfl Try.underlying52) ?_
  refine s_run rfl (g_on 24 (by kernel_rfl) rfl) (r_mul rfl rfl (wI (by omega))) ?_
  refine s_run rfl (g_on 24 (by kernel_rfl) rfl) (rmi rfl) ?_
  refine s_run rfl (g_on 24 (by kernel_rfl) rfl) (r_sub rfl rfl (wI (by omega))) ?_
  refine s_run rfl (g_on 24 (by kernel_rfl) rfl) (r_gtrT rfl rfl (by omega)) ?_
  refine s_run rfl rfl (r_pkF (v := .bool _) rfl rfl) ?_
  refine k_nc ?_
  refine k_t rfl ?_
  refine k_sg ?_
  refine s_run rfl rfl (r_la H 1 rfl rfl rfl ag55 sz55) ?_
  refine s_sw H 0 rfl rfl rfl rfl rfl rfl rfl sz55 ?_
  clear H; intro _ H; simp only [jA, jB, jC, jD, jE, jF, jG, jH, jI, jJ, jK, Nat.reduceAdd] at H
  refine s_run rfl rfl (rai rfl) ?_
  refine k_nc ?_
  refine k_ret ?_
  refine c_ret ?_
  refine fx2r rfl (rv_a H 0 rfl rfl rfl ag55 sz55) (rv_t (v := .int _ _) rfl) ?_
  exact ⟨s, rfl, H.clear, hr.later H.only (by simp)⟩
 rw [if_neg (by omega)]
 obtain ⟨i, hi⟩ : ∃ i : Nat, (a / 8).toNat = i := ⟨_, rfl⟩
 obtain ⟨q, hq⟩ : ∃ q : Nat, (if n = 0 then 0 else ((a + n - 1) / 8).toNat + 1 - (a / 8).toNat) = q := ⟨_, rfl⟩
 have hfin : (if n = 0 then Nv.fence d m else if (Nv.flushAll d m (a / 8).toNat (((a + n - 1) / 8).toNat + 1 - (a / 8).toNat)).2 = 0 then Nv.fence (Nv.flushAll d m (a / 8).toNat (((a + n - 1) / 8).toNat + 1 - (a / 8).toNat)).1 m else Nv.flushAll d m (a / 8).toNat (((a + n - 1) / 8).toNat + 1 - (a / 8).toNat)) = (if (Nv.flushAll d m i q).2 = 0 then Nv.fence (Nv.flushAll d m i q).1 m else Nv.flushAll d m i q) := by
  rw [hi] at hq
  rw [hi]
  by_cases h0 : n = 0
  ·rw [if_pos h0] at hq ⊢
   subst hq
   rfl
  ·rw [if_neg h0] at hq ⊢
   rw [hq]
 rw [hfin]
 clear hfin
 have hi2 : (i : Int) = a / 8 := by omega
 have hq2 : (n = 0 → q = 0) ∧ (n ≠ 0 → (q : Int) = (a + n - 1) / 8 + 1 - a / 8) := by
  constructor
  ·intro h0; rw [if_pos h0] at hq; exact hq.symm
  ·intro h0; rw [if_neg h0] at hq; omega
 clear hi hq
 rw [refE]
 refine k_in (N := 73) Try.func75 rfl rfl rfl ?_
 refine k_sg ?_
 refine s_box H rfl rfl ?_
 intro p3 _ H'; clear H; have H := H'; clear H'
 refine s_al H rfl inf55 ?_
 intro p6 _ H'; clear H; have H := H'; clear H'
 refine s_run rfl rfl (rai rfl) ?_
 refine k_nc ?_
 refine k_seq ?_
 refine k_sg ?_
 refine s_run rfl rfl (rmi rfl) ?_
 refine s_run rfl rfl (r_lssF rfl rfl (by omega)) ?_
 refine s_run rfl rfl (rmb rfl) ?_
 refine s_run rfl (g_on 12 (by kernel_rfl) rfl) (rmi rfl) ?_
 refine s_run rfl (g_on 12 (by kernel_rfl) rfl) (r_lssF rfl rfl (by omega)) ?_
 refine s_run rfl rfl (r_pkF (v := .bool _) rfl rfl) ?_
 refine s_run rfl rfl (rmb rfl) ?_
 refine s_run rfl (g_on 16 (by kernel_rfl) rfl) (rmi rfl) ?_
 refine s_run rfl (g_on 16 (by kernel_rfl) rfl) (r_fa0 rfl fo55_0) ?_
 refine s_run rfl (g_on 16 (by kernel_rfl) rfl) (r_lo H 1 rfl rfl rfl ag52) ?_
 refine s_run rfl (g_on 16 (by kernel_rfl) rfl) (r_len rfl Try.underlying52) ?_
 refine s_run rfl (g_on 16 (by kernel_rfl) rfl) (r_mul rfl rfl (wI (by omega))) ?_
 refine s_run rfl (g_on 16 (by kernel_rfl) rfl) (r_gtrF rfl rfl (by omega)) ?_
 refine s_run rfl rfl (r_pkF (v := .bool _) rfl rfl) ?_
 refine s_run rfl rfl (rmb rfl) ?_
 refine s_run rfl (g_on 24 (by kernel_rfl) rfl) (rmi rfl) ?_
 refine s_run rfl (g_on 24 (by kernel_rfl) rfl) (r_fa0 rfl fo55_0) ?_
 refine s_run rfl (g_on 24 (by kernel_rfl) rfl) (r_lo H 1 rfl rfl rfl ag52) ?_
 refine s_run rfl (g_on 24 (by kernel_rfl) rfl) (r_len rfl Try.underlying52) ?_
 refine s_run rfl (g_on 24 (by kernel_rfl) rfl) (r_mul rfl rfl (wI (by omega))) ?_
 refine s_run rfl (g_on 24 (by kernel_rfl) rfl) (rmi rfl) ?_
 refine s_run rfl (g_on 24 (by kernel_rfl) rfl) (r_sub rfl rfl (wI (by omega))) ?_
 refine s_run rfl (g_on 24 (by kernel_rfl) rfl) (r_gtrF rfl rfl (by omega)) ?_
 refine s_run rfl rfl (r_pkF (v := .bool _) rfl rfl) ?_
 refine k_nc ?_
 refine k_f rfl ?_
 refine k_skip ?_
 refine c_norm ?_
 refine k_sg ?_
 refine s_run rfl rfl (rai rfl) ?_
 refine k_nc ?_
 refine k_seq ?_
 refine k_sg ?_
 refine s_run rfl rfl (rai rfl) ?_
 refine k_nc ?_
 refine k_b ?_
 have hp3 : p3 ∉ F ∧ p6 ∉ F := by
  have h5 := H.own p3 (by simp [ids, blk])
  have h6 := H.own p6 (by simp [ids, blk])
  constructor
  ·intro hm'; have := hF _ hm'; rcases h5 with h5 | h5
   ·cases h5
   ·omega
  ·intro hm'; have := hF _ hm'; rcases h6 with h6 | h6
   ·cases h6
   ·omega
 have hr1 : RefOk _ (p3 :: p6 :: F) s d m := (hr.news (G := p3 :: p6 :: F) (by
  intro j hj
  have h5 := H.own p3 (by simp [ids, blk])
  have h6 := H.own p6 (by simp [ids, blk])
  rcases List.mem_cons.1 hj with rfl | hj
  ·rcases h5 with h5 | h5
   ·cases h5
   ·exact .inr h5
  ·rcases List.mem_cons.1 hj with rfl | hj
   ·rcases h6 with h6 | h6
    ·cases h6
    ·exact .inr h6
   ·exact .inl hj)).later H.only (by simp)
 refine k_loop (fun z f W => ∃ (k j : Nat) (x : Nv.D) (s' : RefS), k ≤ m ∧ z = m - k ∧ (k ≤ i → j = 0) ∧ (i < k → k ≤ i + q → j = k - i) ∧ (i + q < k → j = q) ∧ j ≤ q ∧ RefOk W (p3 :: p6 :: F) s' x m ∧ Nv.flushAll d m i q = Nv.flushAll x m (i + j) (q - j) ∧ f 1 = .int .i64 a ∧ f 2 = .int .i64 n ∧ f 3 = ptr p3 ∧ f 6 = ptr p6 ∧ f 9 = .int .i64 k ∧ Heap w [] [blk p6 [.slice none 0 0, .slice none 0 0, .slice none 0 0, .slice none 0 0, .slice none 0 0, .int .i64 0, .int .i64 0, .bool false] 55, blk p3 (refCells s' x m) 55] W) m ⟨0, 0, d, s, by omega, rfl, fun _ => rfl, by omega, by omega, by omega, hr1, rfl, rfl, rfl, rfl, rfl, rfl, H⟩ ?_
 clear H hr1
 rintro z f W ⟨k, j, x, s', hk, rfl, hj1, hj2, hj3, hj4, hx, hfl, f1, f2, f3, f6, f9, H⟩
 obtain ⟨f, rfl⟩ := live5 f1 f2 f3 f6 f9
 clear f1 f2 f3 f6 f9
 have hlt3 : ∀ y ∈ p3 :: p6 :: F, y < W.heap.size := by
  intro y hy
  rcases List.mem_cons.1 hy with rfl | hy
  ·exact H.idlt _ (by simp [ids, blk])
  ·rcases List.mem_cons.1 hy with rfl | hy
   ·exact H.idlt _ (by simp [ids, blk])
   ·exact Nat.lt_of_lt_of_le (hF _ hy) H.only.size
 by_cases hlt : k < m
 ·by_cases hn : 0 < n
  ·have hqq := hq2.2 (by omega)
   by_cases hin : i ≤ k ∧ k < i + q
   ·have hjk : j = k - i := by
     by_cases hki : k = i
     ·rw [hj1 (by omega)]; omega
     ·exact hj2 (by omega) (by omega)
    obtain ⟨r, hr2⟩ : ∃ r, q - j = r + 1 := ⟨q - j - 1, by omega⟩
    rw [hr2, show i + j = k from by omega, Nv.flushAll] at hfl
    have hFl := rFlush s' x m (k : Int) (p3 :: p6 :: F) W hx hlt3 hm
    by_cases he : (Nv.flush x m (k : Int)).2 = 0
    ·rw [if_pos he] at hfl
     rw [he] at hFl
     refine k_seq ?_
     refine k_sg ?_
     refine s_run rfl rfl (rmi rfl) ?_
     refine s_run rfl rfl (r_fa0 rfl fo55_0) ?_
     refine s_run rfl rfl (r_lo H 1 rfl rfl rfl ag52) ?_
     refine s_run rfl rfl (r_len rfl Try.underlying52) ?_
     refine s_run rfl rfl (r_lssT rfl rfl (by omega)) ?_
     refine k_nc ?_
     refine k_t rfl ?_
     refine k_skip ?_
     refine c_norm ?_
     refine k_seq ?_
     refine k_b ?_
     refine k_sg ?_
     refine s_run rfl rfl (rmi rfl) ?_
     refine s_run rfl rfl (r_gtrT rfl rfl (by omega)) ?_
     refine s_run rfl rfl (rmb rfl) ?_
     refine s_run rfl (g_on 44 (by kernel_rfl) rfl) (rmi rfl) ?_
     refine s_run rfl (g_on 44 (by kernel_rfl) rfl) (r_mul rfl rfl (wI (by omega))) ?_
     refine s_run rfl (g_on 44 (by kernel_rfl) rfl) (r_add rfl rfl (wI (by omega))) ?_
     refine s_run rfl (g_on 44 (by kernel_rfl) rfl) (rmi rfl) ?_
     refine s_run rfl (g_on 44 (by kernel_rfl) rfl) (r_geqT rfl rfl (by omega)) ?_
     refine s_run rfl rfl (r_pkT (v := .bool _) rfl rfl) ?_
     refine s_run rfl rfl (rmb rfl) ?_
     refine s_run rfl (g_on 51 (by kernel_rfl) rfl) (rmi rfl) ?_
     refine s_run rfl (g_on 51 (by kernel_rfl) rfl) (r_mul rfl rfl (wI (by omega))) ?_
     refine s_run rfl (g_on 51 (by kernel_rfl) rfl) (rmi rfl) ?_
     refine s_run rfl (g_on 51 (by kernel_rfl) rfl) (rmi rfl) ?_
     refine s_run rfl (g_on 51 (by kernel_rfl) rfl) (r_add rfl rfl (wI (by omega))) ?_
     refine s_run rfl (g_on 51 (by kernel_rfl) rfl) (r_lssT rfl rfl (by omega)) ?_
     refine s_run rfl rfl (r_pkT (v := .bool _) rfl rfl) ?_
     refine k_nc ?_
     refine k_t rfl ?_
     refine k_sg ?_
     refine s_run rfl rfl (r_la H 1 rfl rfl rfl ag55 sz55) ?_
     refine s_run rfl rfl (rmi rfl) ?_
     refine s_call rfl (hFl) (ca72 rfl) ?_
     rintro e W1 ⟨s2, rfl, H', hr'⟩
     refine ⟨_, rfl, ?_⟩
     have H := H.same H'.only; clear H'; simp only [refE]; have HB := H; clear H; have H := Heap.start HB.ents
     refine s_run rfl rfl (rmt rfl) ?_
     refine s_run rfl rfl (r_ext (v := .agg _) rfl rfl) ?_
     refine s_run rfl rfl (r_ext (v := .int _ _) rfl rfl) ?_
     refine s_sw H 1 rfl rfl rfl rfl rfl rfl rfl sz55 ?_
     clear H; intro _ H; simp only [jA, jB, jC, jD, jE, jF, jG, jH, jI, jJ, jK, Nat.reduceAdd] at H
     refine s_run rfl rfl (rai rfl) ?_
     refine k_nc ?_
     refine k_sg ?_
     refine s_run rfl rfl (rmi rfl) ?_
     refine s_run rfl rfl (r_neqF rfl rfl (by omega)) ?_
     refine k_nc ?_
     refine k_f rfl ?_
     refine k_skip ?_
     refine b_norm ?_
     refine c_norm ?_
     refine k_rg ?_
     refine s_run rfl rfl (rmi rfl) ?_
     refine s_run rfl rfl (r_add rfl rfl (wI (by omega))) ?_
     refine s_run rfl rfl (rai rfl) ?_
     refine k_nil ?_
     refine c_round ?_
     refine ⟨_, _, ?_, rfl, k + 1, j + 1, _, s2, by omega, rfl, by omega, by omega, by omega, by omega, hr'.later H.only (by simp [ids, blk]), ?_, rfl, rfl, rfl, rfl, rfl, HB.whole H⟩
     ·omega
     ·rw [hfl, show i + (j + 1) = k + 1 from by omega, show q - (j + 1) = r from by omega]
    ·rw [if_neg he] at hfl
     rw [hfl, if_neg he]
     refine k_seq ?_
     refine k_sg ?_
     refine s_run rfl rfl (rmi rfl) ?_
     refine s_run rfl rfl (r_fa0 rfl fo55_0) ?_
     refine s_run rfl rfl (r_lo H 1 rfl rfl rfl ag52) ?_
     refine s_run rfl rfl (r_len rfl Try.underlying52) ?_
     refine s_run rfl rfl (r_lssT rfl rfl (by omega)) ?_
     refine k_nc ?_
     refine k_t rfl ?_
     refine k_skip ?_
     refine c_norm ?_
     refine k_seq ?_
     refine k_b ?_
     refine k_sg ?_
     refine s_run rfl rfl (rmi rfl) ?_
     refine s_run rfl rfl (r_gtrT rfl rfl (by omega)) ?_
     refine s_run rfl rfl (rmb rfl) ?_
     refine s_run rfl (g_on 44 (by kernel_rfl) rfl) (rmi rfl) ?_
     refine s_run rfl (g_on 44 (by kernel_rfl) rfl) (r_mul rfl rfl (wI (by omega))) ?_
     refine s_run rfl (g_on 44 (by kernel_rfl) rfl) (r_add rfl rfl (wI (by omega))) ?_
     refine s_run rfl (g_on 44 (by kernel_rfl) rfl) (rmi rfl) ?_
     refine s_run rfl (g_on 44 (by kernel_rfl) rfl) (r_geqT rfl rfl (by omega)) ?_
     refine s_run rfl rfl (r_pkT (v := .bool _) rfl rfl) ?_
     refine s_run rfl rfl (rmb rfl) ?_
     refine s_run rfl (g_on 51 (by kernel_rfl) rfl) (rmi rfl) ?_
     refine s_run rfl (g_on 51 (by kernel_rfl) rfl) (r_mul rfl rfl (wI (by omega))) ?_
     refine s_run rfl (g_on 51 (by kernel_rfl) rfl) (rmi rfl) ?_
     refine s_run rfl (g_on 51 (by kernel_rfl) rfl) (rmi rfl) ?_
     refine s_run rfl (g_on 51 (by kernel_rfl) rfl) (r_add rfl rfl (wI (by omega))) ?_
     refine s_run rfl (g_on 51 (by kernel_rfl) rfl) (r_lssT rfl rfl (by omega)) ?_
     refine s_run rfl rfl (r_pkT (v := .bool _) rfl rfl) ?_
     refine k_nc ?_
     refine k_t rfl ?_
     refine k_sg ?_
     refine s_run rfl rfl (r_la H 1 rfl rfl rfl ag55 sz55) ?_
     refine s_run rfl rfl (rmi rfl) ?_
     refine s_call rfl (hFl) (ca72 rfl) ?_
     rintro e W1 ⟨s2, rfl, H', hr'⟩
     refine ⟨_, rfl, ?_⟩
     have H := H.same H'.only; clear H'; simp only [refE]; have HB := H; clear H; have H := Heap.start HB.ents
     refine s_run rfl rfl (rmt rfl) ?_
     refine s_run rfl rfl (r_ext (v := .agg _) rfl rfl) ?_
     refine s_run rfl rfl (r_ext (v := .int _ _) rfl rfl) ?_
     refine s_sw H 1 rfl rfl rfl rfl rfl rfl rfl sz55 ?_
     clear H; intro _ H; simp only [jA, jB, jC, jD, jE, jF, jG, jH, jI, jJ, jK, Nat.reduceAdd] at H
     refine s_run rfl rfl (rai rfl) ?_
     refine k_nc ?_
     refine k_sg ?_
     refine s_run rfl rfl (rmi rfl) ?_
     refine s_run rfl rfl (r_neqT rfl rfl (by omega)) ?_
     refine k_nc ?_
     refine k_t rfl ?_
     refine k_sg ?_
     refine s_run rfl rfl (r_la H 1 rfl rfl rfl ag55 sz55) ?_
     refine s_run rfl rfl (rmi rfl) ?_
     refine s_sw H 0 rfl rfl rfl rfl rfl rfl rfl sz55 ?_
     clear H; intro _ H; simp only [jA, jB, jC, jD, jE, jF, jG, jH, jI, jJ, jK, Nat.reduceAdd] at H
     refine s_run rfl rfl (rai rfl) ?_
     refine k_nc ?_
     refine k_ret ?_
     refine b_ret ?_
     refine c_ret ?_
     refine c_ret ?_
     refine b_ret ?_
     refine c_ret ?_
     refine fx2r rfl (rv_a H 0 rfl rfl rfl ag55 sz55) (rv_t (v := .int _ _) rfl) ?_
     exact ⟨s2, rfl, (HB.whole H).clear, (hr'.later H.only (by simp [ids, blk])).news (fun y hy => .inl (by simp [hy]))⟩
   ·by_cases hb : 8 * (k : Int) + 7 < a
    ·refine k_seq ?_
     refine k_sg ?_
     refine s_run rfl rfl (rmi rfl) ?_
     refine s_run rfl rfl (r_fa0 rfl fo55_0) ?_
     refine s_run rfl rfl (r_lo H 1 rfl rfl rfl ag52) ?_
     refine s_run rfl rfl (r_len rfl Try.underlying52) ?_
     refine s_run rfl rfl (r_lssT rfl rfl (by omega)) ?_
     refine k_nc ?_
     refine k_t rfl ?_
     refine k_skip ?_
     refine c_norm ?_
     refine k_seq ?_
     refine k_b ?_
     refine k_sg ?_
     refine s_run rfl rfl (rmi rfl) ?_
     refine s_run rfl rfl (r_gtrT rfl rfl (by omega)) ?_
     refine s_run rfl rfl (rmb rfl) ?_
     refine s_run rfl (g_on 44 (by kernel_rfl) rfl) (rmi rfl) ?_
     refine s_run rfl (g_on 44 (by kernel_rfl) rfl) (r_mul rfl rfl (wI (by omega))) ?_
     refine s_run rfl (g_on 44 (by kernel_rfl) rfl) (r_add rfl rfl (wI (by omega))) ?_
     refine s_run rfl (g_on 44 (by kernel_rfl) rfl) (rmi rfl) ?_
     refine s_run rfl (g_on 44 (by kernel_rfl) rfl) (r_geqF rfl rfl (by omega)) ?_
     refine s_run rfl rfl (r_pkT (v := .bool _) rfl rfl) ?_
     refine s_run rfl rfl (rmb rfl) ?_
     refine s_off rfl (g_off 51 (by kernel_rfl) rfl rfl) ?_
     refine s_off rfl (g_off 51 (by kernel_rfl) rfl rfl) ?_
     refine s_off rfl (g_off 51 (by kernel_rfl) rfl rfl) ?_
     refine s_off rfl (g_off 51 (by kernel_rfl) rfl rfl) ?_
     refine s_off rfl (g_off 51 (by kernel_rfl) rfl rfl) ?_
     refine s_off rfl (g_off 51 (by kernel_rfl) rfl rfl) ?_
     refine s_run rfl rfl (r_pkF (v := .bool _) rfl rfl) ?_
     refine k_nc ?_
     refine k_f rfl ?_
     refine k_skip ?_
     refine b_norm ?_
     refine c_norm ?_
     refine k_rg ?_
     refine s_run rfl rfl (rmi rfl) ?_
     refine s_run rfl rfl (r_add rfl rfl (wI (by omega))) ?_
     refine s_run rfl rfl (rai rfl) ?_
     refine k_nil ?_
     refine c_round ?_
     refine ⟨_, _, ?_, rfl, k + 1, j, x, s', by omega, rfl, by omega, by omega, by omega, by omega, hx, hfl, rfl, rfl, rfl, rfl, rfl, H⟩
     omega
    ·refine k_seq ?_
     refine k_sg ?_
     refine s_run rfl rfl (rmi rfl) ?_
     refine s_run rfl rfl (r_fa0 rfl fo55_0) ?_
     refine s_run rfl rfl (r_lo H 1 rfl rfl rfl ag52) ?_
     refine s_run rfl rfl (r_len rfl Try.underlying52) ?_
     refine s_run rfl rfl (r_lssT rfl rfl (by omega)) ?_
     refine k_nc ?_
     refine k_t rfl ?_
     refine k_skip ?_
     refine c_norm ?_
     refine k_seq ?_
     refine k_b ?_
     refine k_sg ?_
     refine s_run rfl rfl (rmi rfl) ?_
     refine s_run rfl rfl (r_gtrT rfl rfl (by omega)) ?_
     refine s_run rfl rfl (rmb rfl) ?_
     refine s_run rfl (g_on 44 (by kernel_rfl) rfl) (rmi rfl) ?_
     refine s_run rfl (g_on 44 (by kernel_rfl) rfl) (r_mul rfl rfl (wI (by omega))) ?_
     refine s_run rfl (g_on 44 (by kernel_rfl) rfl) (r_add rfl rfl (wI (by omega))) ?_
     refine s_run rfl (g_on 44 (by kernel_rfl) rfl) (rmi rfl) ?_
     refine s_run rfl (g_on 44 (by kernel_rfl) rfl) (r_geqT rfl rfl (by omega)) ?_
     refine s_run rfl rfl (r_pkT (v := .bool _) rfl rfl) ?_
     refine s_run rfl rfl (rmb rfl) ?_
     refine s_run rfl (g_on 51 (by kernel_rfl) rfl) (rmi rfl) ?_
     refine s_run rfl (g_on 51 (by kernel_rfl) rfl) (r_mul rfl rfl (wI (by omega))) ?_
     refine s_run rfl (g_on 51 (by kernel_rfl) rfl) (rmi rfl) ?_
     refine s_run rfl (g_on 51 (by kernel_rfl) rfl) (rmi rfl) ?_
     refine s_run rfl (g_on 51 (by kernel_rfl) rfl) (r_add rfl rfl (wI (by omega))) ?_
     refine s_run rfl (g_on 51 (by kernel_rfl) rfl) (r_lssF rfl rfl (by omega)) ?_
     refine s_run rfl rfl (r_pkT (v := .bool _) rfl rfl) ?_
     refine k_nc ?_
     refine k_f rfl ?_
     refine k_skip ?_
     refine b_norm ?_
     refine c_norm ?_
     refine k_rg ?_
     refine s_run rfl rfl (rmi rfl) ?_
     refine s_run rfl rfl (r_add rfl rfl (wI (by omega))) ?_
     refine s_run rfl rfl (rai rfl) ?_
     refine k_nil ?_
     refine c_round ?_
     refine ⟨_, _, ?_, rfl, k + 1, j, x, s', by omega, rfl, by omega, by omega, by omega, by omega, hx, hfl, rfl, rfl, rfl, rfl, rfl, H⟩
     omega
  ·have hqq := hq2.1 (by omega)
   refine k_seq ?_
   refine k_sg ?_
   refine s_run rfl rfl (rmi rfl) ?_
   refine s_run rfl rfl (r_fa0 rfl fo55_0) ?_
   refine s_run rfl rfl (r_lo H 1 rfl rfl rfl ag52) ?_
   refine s_run rfl rfl (r_len rfl Try.underlying52) ?_
   refine s_run rfl rfl (r_lssT rfl rfl (by omega)) ?_
   refine k_nc ?_
   refine k_t rfl ?_
   refine k_skip ?_
   refine c_norm ?_
   refine k_seq ?_
   refine k_b ?_
   refine k_sg ?_
   refine s_run rfl rfl (rmi rfl) ?_
   refine s_run rfl rfl (r_gtrF rfl rfl (by omega)) ?_
   refine s_run rfl rfl (rmb rfl) ?_
   refine s_off rfl (g_off 44 (by kernel_rfl) rfl rfl) ?_
   refine s_off rfl (g_off 44 (by kernel_rfl) rfl rfl) ?_
   refine s_off rfl (g_off 44 (by kernel_rfl) rfl rfl) ?_
   refine s_off rfl (g_off 44 (by kernel_rfl) rfl rfl) ?_
   refine s_off rfl (g_off 44 (by kernel_rfl) rfl rfl) ?_
   refine s_run rfl rfl (r_pkF (v := .bool _) rfl rfl) ?_
   refine s_run rfl rfl (rmb rfl) ?_
   refine s_off rfl (g_off 51 (by kernel_rfl) rfl rfl) ?_
   refine s_off rfl (g_off 51 (by kernel_rfl) rfl rfl) ?_
   refine s_off rfl (g_off 51 (by kernel_rfl) rfl rfl) ?_
   refine s_off rfl (g_off 51 (by kernel_rfl) rfl rfl) ?_
   refine s_off rfl (g_off 51 (by kernel_rfl) rfl rfl) ?_
   refine s_off rfl (g_off 51 (by kernel_rfl) rfl rfl) ?_
   refine s_run rfl rfl (r_pkF (v := .bool _) rfl rfl) ?_
   refine k_nc ?_
   refine k_f rfl ?_
   refine k_skip ?_
   refine b_norm ?_
   refine c_norm ?_
   refine k_rg ?_
   refine s_run rfl rfl (rmi rfl) ?_
   refine s_run rfl rfl (r_add rfl rfl (wI (by omega))) ?_
   refine s_run rfl rfl (rai rfl) ?_
   refine k_nil ?_
   refine c_round ?_
   refine ⟨_, _, ?_, rfl, k + 1, j, x, s', by omega, rfl, by omega, by omega, by omega, by omega, hx, hfl, rfl, rfl, rfl, rfl, rfl, H⟩
   omega
 ·obtain rfl : k = m := by omega
  have hjq : j = q := by
   by_cases h0 : n = 0
   ·have := hq2.1 h0; omega
   ·have := hq2.2 h0
    by_cases hki : k ≤ i
    ·omega
    ·by_cases hkq : k ≤ i + q
     ·have := hj2 (by omega) hkq; omega
     ·exact hj3 (by omega)
  rw [hjq, Nat.sub_self, Nv.flushAll] at hfl
  rw [hfl, if_pos rfl]
  have hFe := rFence s' x k (p3 :: p6 :: F) W hx hlt3 hm
  refine k_seq ?_
  refine k_sg ?_
  refine s_run rfl rfl (rmi rfl) ?_
  refine s_run rfl rfl (r_fa0 rfl fo55_0) ?_
  refine s_run rfl rfl (r_lo H 1 rfl rfl rfl ag52) ?_
  refine s_run rfl rfl (r_len rfl Try.underlying52) ?_
  refine s_run rfl rfl (r_lssF rfl rfl (by omega)) ?_
  refine k_nc ?_
  refine k_f rfl ?_
  refine k_exit ?_
  refine c_exit ?_
  refine c_exit ?_
  refine b_hit ?_
  refine c_norm ?_
  refine k_sg ?_
  refine s_run rfl rfl (r_la H 1 rfl rfl rfl ag55 sz55) ?_
  refine s_call rfl (hFe) (ca73 rfl) ?_
  rintro e W1 ⟨s2, rfl, H', hr'⟩
  refine ⟨_, rfl, ?_⟩
  have H := H.same H'.only; clear H'; simp only [refE]; have HB := H; clear H; have H := Heap.start HB.ents
  refine s_run rfl rfl (r_ext (v := .agg _) rfl rfl) ?_
  refine s_run rfl rfl (r_ext (v := .int _ _) rfl rfl) ?_
  refine s_sw H 0 rfl rfl rfl rfl rfl rfl rfl sz55 ?_
  clear H; intro _ H; simp only [jA, jB, jC, jD, jE, jF, jG, jH, jI, jJ, jK, Nat.reduceAdd] at H
  refine s_run rfl rfl (rai rfl) ?_
  refine k_nc ?_
  refine k_ret ?_
  refine fx2r rfl (rv_a H 0 rfl rfl rfl ag55 sz55) (rv_t (v := .int _ _) rfl) ?_
  exact ⟨s2, rfl, (HB.whole H).clear, (hr'.later H.only (by simp [ids, blk])).news (fun y hy => .inl (by simp [hy]))⟩
end Go.Proofs.Ytmekhdclnhhhbaa
end

section
namespace Go.Proofs.Ytmekhdclnhhhbaa
open Go.RowKit
theorem rDirty (s : RefS) (d : Nv.D) (m : Nat) (w : World) (hz : Sees Value.bool w [] s.A3 d.dirty) (hl : d.dirty.length = m) (hm : m ≤ 100000) :
  Calls Try.prog 91 [.agg (refCells s d m).toArray].toArray w fun e w' => ∃ A b c, e = .returned (.slice A (Nv.dirtyTo d.dirty m).length c) ∧ ((Nv.dirtyTo d.dirty m).length ≠ 0 → A = some ⟨b, 0, none⟩) ∧ Heap w [] [vec (Value.int .i64) b (Nv.dirtyTo d.dirty m) 3] w' := by
 have H := Heap.nil w
 rw [refE]
 refine k_in (N := 22) Try.func91 rfl rfl rfl ?_
 refine k_sg ?_
 refine s_box H rfl rfl ?_
 intro p1 _ H'; clear H; have H := H'; clear H'
 refine s_run rfl rfl (ras rfl) ?_
 refine k_nc ?_
 refine k_sg ?_
 refine s_run rfl rfl (ras rfl) ?_
 refine k_nc ?_
 refine k_seq ?_
 refine k_sg ?_
 refine s_run rfl rfl (rai rfl) ?_
 refine k_nc ?_
 refine k_b ?_
 refine k_loop (fun q f W => ∃ (k : Nat) (A : Option Addr) (c : Nat), k ≤ m ∧ q = m - k ∧ f 1 = ptr p1 ∧ f 3 = .slice A (Nv.dirtyTo d.dirty k).length c ∧ f 4 = .int .i64 k ∧ Heap w [] [ownN 1 (.slice A (Nv.dirtyTo d.dirty k).length c) (Nv.dirtyTo d.dirty k).length ((Nv.dirtyTo d.dirty k).map (Value.int .i64)) 3, blk p1 [.slice s.A0 m s.c0, .slice s.A1 m s.c1, .slice s.A2 m s.c2, .slice s.A3 m s.c3, .slice s.A4 m s.c4, .int .i64 d.steps, .int .i64 s.rf, .bool d.dead] 55] W) m ⟨0, none, 0, by omega, rfl, rfl, rfl, rfl, H.own_nil 1 3⟩ ?_
 clear H
 rintro q f W ⟨k, A, c, hk, rfl, h1, h3, h4, H⟩
 have hlen := dirtyTo_len d.dirty k
 by_cases hlt : k < m
 ·obtain ⟨bd, od, ed, _, hrd⟩ := hz (by omega)
  have hcd := hrd k _ (getE (by omega))
  simp only [ed] at H
  obtain ⟨f, rfl⟩ := live3 h1 h3 h4
  clear h1 h3 h4
  by_cases hv : d.dirty.getD k default = true
  ·rw [hv] at hcd
   have e : Nv.dirtyTo d.dirty (k + 1) = Nv.dirtyTo d.dirty k ++ [(k : Int)] := by rw [Nv.dirtyTo]; exact if_pos hv
   have el : (Nv.dirtyTo d.dirty (k + 1)).length = (Nv.dirtyTo d.dirty k).length + 1 := by rw [e]; simp
   refine k_seq ?_
   refine k_sg ?_
   refine s_run rfl rfl (rmi rfl) ?_
   refine s_run rfl rfl (r_fa0 rfl fo55_3) ?_
   refine s_run rfl rfl (r_lo H 1 rfl rfl rfl ag53) ?_
   refine s_run rfl rfl (r_len rfl Try.underlying53) ?_
   refine s_run rfl rfl (r_lssT rfl rfl (by omega)) ?_
   refine k_nc ?_
   refine k_t rfl ?_
   refine k_skip ?_
   refine c_norm ?_
   refine k_seq ?_
   refine k_b ?_
   refine k_sg ?_
   refine s_run rfl rfl (r_fa0 rfl fo55_3) ?_
   refine s_run rfl rfl (r_lo H 1 rfl rfl rfl ag53) ?_
   refine s_run rfl rfl (rmi rfl) ?_
   refine s_run rfl rfl (r_ix1o rfl rfl rfl (by omega) Try.underlying53 sz4) ?_
   refine s_run rfl rfl (r_lr H rfl hcd (by simp) ag4) ?_
   refine k_nc ?_
   refine k_t rfl ?_
   refine k_rg ?_
   refine s_run rfl rfl (rms rfl) ?_
   refine s_run rfl rfl (rmi rfl) ?_
   refine s_app1 (enc := (Value.int .i64)) H 0 rfl rfl rfl rfl rfl rfl rfl (by omega) Try.underlying42 inf3 rfl ?_
   intro _ An cn _ H'; simp only [List.set_cons_zero, List.set_cons_succ, List.take_succ_cons, List.take_zero, List.drop_succ_cons, List.drop_zero, List.cons_append, List.nil_append, List.append_nil, List.length_cons, List.length_nil, Nat.reduceAdd] at H'; clear H; have H := H'; clear H'
   refine s_run rfl rfl (ras rfl) ?_
   refine k_nil ?_
   refine b_norm ?_
   refine c_norm ?_
   refine k_rg ?_
   refine s_run rfl rfl (rmi rfl) ?_
   refine s_run rfl rfl (r_add rfl rfl (wI (by omega))) ?_
   refine s_run rfl rfl (rai rfl) ?_
   refine k_nil ?_
   refine c_round ?_
   rw [← e, ← el] at H
   refine ⟨_, _, ?_, rfl, k + 1, An, cn, by omega, rfl, rfl, ?_, rfl, ?_⟩
   ·omega
   ·rw [el]; rfl
   ·rw [ed]; exact H
  ·have hv2 : d.dirty.getD k default = false := by simpa using hv
   rw [hv2] at hcd
   have e : Nv.dirtyTo d.dirty (k + 1) = Nv.dirtyTo d.dirty k := by rw [Nv.dirtyTo]; exact if_neg hv
   refine k_seq ?_
   refine k_sg ?_
   refine s_run rfl rfl (rmi rfl) ?_
   refine s_run rfl rfl (r_fa0 rfl fo55_3) ?_
   refine s_run rfl rfl (r_lo H 1 rfl rfl rfl ag53) ?_
   refine s_run rfl rfl (r_len rfl Try.underlying53) ?_
   refine s_run rfl rfl (r_lssT rfl rfl (by omega)) ?_
   refine k_nc ?_
   refine k_t rfl ?_
   refine k_skip ?_
   refine c_norm ?_
   refine k_seq ?_
   refine k_b ?_
   refine k_sg ?_
   refine s_run rfl rfl (r_fa0 rfl fo55_3) ?_
   refine s_run rfl rfl (r_lo H 1 rfl rfl rfl ag53) ?_
   refine s_run rfl rfl (rmi rfl) ?_
   refine s_run rfl rfl (r_ix1o rfl rfl rfl (by omega) Try.underlying53 sz4) ?_
   refine s_run rfl rfl (r_lr H rfl hcd (by simp) ag4) ?_
   refine k_nc ?_
   refine k_f rfl ?_
   refine k_skip ?_
   refine b_norm ?_
   refine c_norm ?_
   refine k_rg ?_
   refine s_run rfl rfl (rmi rfl) ?_
   refine s_run rfl rfl (r_add rfl rfl (wI (by omega))) ?_
   refine s_run rfl rfl (rai rfl) ?_
   refine k_nil ?_
   refine c_round ?_
   rw [← e] at H
   refine ⟨_, _, ?_, rfl, k + 1, A, c, by omega, rfl, rfl, ?_, rfl, ?_⟩
   ·omega
   ·rw [e]; rfl
   ·rw [ed]; exact H
 ·obtain rfl : k = m := by omega
  obtain ⟨f, rfl⟩ := live3 h1 h3 h4
  clear h1 h3 h4
  refine k_seq ?_
  refine k_sg ?_
  refine s_run rfl rfl (rmi rfl) ?_
  refine s_run rfl rfl (r_fa0 rfl fo55_3) ?_
  refine s_run rfl rfl (r_lo H 1 rfl rfl rfl ag53) ?_
  refine s_run rfl rfl (r_len rfl Try.underlying53) ?_
  refine s_run rfl rfl (r_lssF rfl rfl (by omega)) ?_
  refine k_nc ?_
  refine k_f rfl ?_
  refine k_exit ?_
  refine c_exit ?_
  refine c_exit ?_
  refine b_hit ?_
  refine c_norm ?_
  refine k_sg ?_
  refine s_run rfl rfl (rms rfl) ?_
  refine s_run rfl rfl (ras rfl) ?_
  refine k_nc ?_
  refine k_ret ?_
  refine fin1r (v := .slice _ _ _) rfl rfl ?_
  have H2 : Heap w [] [ownN 1 (.slice A (Nv.dirtyTo d.dirty k).length c) (Nv.dirtyTo d.dirty k).length ((Nv.dirtyTo d.dirty k).map (Value.int .i64)) 3] W := Heap.drops (L := [_]) H
  obtain ⟨b, hb, H3⟩ := own_vec0 H2
  exact ⟨A, b, c, rfl, hb, H3⟩
theorem same_no {xs ys : List Int} {k : Nat} (h : ¬ xs.getD k default = ys.getD k default) : Nv.same xs ys = false := by
 rw [Nv.same, decide_eq_false (fun e => h (by rw [e]))]
theorem same_len {xs ys : List Int} (h : ¬ xs.length = ys.length) : Nv.same xs ys = false := by
 rw [Nv.same, decide_eq_false (fun e => h (by rw [e]))]
theorem rInts (A B : Option Addr) (n n2 c c2 : Nat) (xs ys : List Int) (w : World) (hx : Sees (Value.int .i64) w [] A xs) (hy : Sees (Value.int .i64) w [] B ys) (lx : xs.length = n) (ly : ys.length = n2) (hn : n ≤ 1000000 ∧ n2 ≤ 1000000) :
  Calls Try.prog 90 [.slice A n c, .slice B n2 c2].toArray w fun e w' => e = .returned (.bool (Nv.same xs ys)) ∧ Only [] w w' := by
 have H := Heap.nil w
 by_cases hne : n = n2
 ·subst hne
  refine k_in (N := 26) Try.func90 rfl rfl rfl ?_
  refine k_sg ?_
  refine s_run rfl rfl (rab rfl) ?_
  refine k_nc ?_
  refine k_seq ?_
  refine k_sg ?_
  refine s_run rfl rfl (rms rfl) ?_
  refine s_run rfl rfl (r_len rfl Try.underlying42) ?_
  refine s_run rfl rfl (rms rfl) ?_
  refine s_run rfl rfl (r_len rfl Try.underlying42) ?_
  refine s_run rfl rfl (r_neqF rfl rfl (by omega)) ?_
  refine k_nc ?_
  refine k_f rfl ?_
  refine k_skip ?_
  refine c_norm ?_
  refine k_seq ?_
  refine k_sg ?_
  refine s_run rfl rfl (rai rfl) ?_
  refine k_nc ?_
  refine k_b ?_
  refine k_loop (fun m f W => ∃ k : Nat, k ≤ n ∧ m = n - k ∧ (∀ i, i < k → xs.getD i default = ys.getD i default) ∧ f 0 = .slice A n c ∧ f 1 = .slice B n c2 ∧ f 5 = .int .i64 k ∧ Heap w [] [] W) n ⟨0, by omega, by omega, by omega, rfl, rfl, rfl, H⟩ ?_
  clear H
  rintro m f W ⟨k, hk, rfl, hall, h0, h1, h2, H⟩
  by_cases hlt : k < n
  ·obtain ⟨b, o, rfl, _, hrx⟩ := hx (by omega)
   obtain ⟨b2, o2, rfl, _, hry⟩ := hy (by omega)
   obtain ⟨f, rfl⟩ := live3 h0 h1 h2
   clear h0 h1 h2
   have cx := hrx k _ (getE (by omega))
   have cy := hry k _ (getE (by omega))
   by_cases he : xs.getD k default = ys.getD k default
   ·refine k_seq ?_
    refine k_sg ?_
    refine s_run rfl rfl (rmi rfl) ?_
    refine s_run rfl rfl (rms rfl) ?_
    refine s_run rfl rfl (r_len rfl Try.underlying42) ?_
    refine s_run rfl rfl (r_lssT rfl rfl (by omega)) ?_
    refine k_nc ?_
    refine k_t rfl ?_
    refine k_skip ?_
    refine c_norm ?_
    refine k_seq ?_
    refine k_b ?_
    refine k_seq ?_
    refine k_q mixed (by kernel_rfl) H ?_
    refine q_run rfl rfl (fun _ H => r_mv (v := .slice _ _ _) rfl) ?_
    refine q_run rfl rfl (fun _ H => r_mv (v := .int _ _) rfl) ?_
    refine q_run rfl rfl (fun _ H => r_ix1o rfl rfl rfl (by omega) Try.underlying42 sz3) ?_
    refine q_run rfl rfl (fun _ H => r_lr H rfl cx (by simp) ag3) ?_
    refine q_run rfl rfl (fun _ H => r_mv (v := .slice _ _ _) rfl) ?_
    refine q_run rfl rfl (fun _ H => r_mv (v := .int _ _) rfl) ?_
    refine q_run rfl rfl (fun _ H => r_ix1o rfl rfl rfl (by omega) Try.underlying42 sz3) ?_
    refine q_run rfl rfl (fun _ H => r_lr H rfl cy (by simp) ag3) ?_
    refine q_run rfl rfl (fun _ H => r_neqF rfl rfl (by omega)) ?_
    refine q_nil ?_
    intro _ H'; clear H; have H := H'; clear H'
    refine c_norm ?_
    refine k_f rfl ?_
    refine k_skip ?_
    refine b_norm ?_
    refine c_norm ?_
    refine k_rg ?_
    refine s_run rfl rfl (rmi rfl) ?_
    refine s_run rfl rfl (r_add rfl rfl (wI (by omega))) ?_
    refine s_run rfl rfl (rai rfl) ?_
    refine k_nil ?_
    refine c_round ?_
    refine ⟨_, _, ?_, rfl, k + 1, by omega, rfl, fun i hi => ?_, rfl, rfl, rfl, H⟩
    ·omega
    ·by_cases hik : i = k
     ·subst hik; exact he
     ·exact hall i (by omega)
   ·refine k_seq ?_
    refine k_sg ?_
    refine s_run rfl rfl (rmi rfl) ?_
    refine s_run rfl rfl (rms rfl) ?_
    refine s_run rfl rfl (r_len rfl Try.underlying42) ?_
    refine s_run rfl rfl (r_lssT rfl rfl (by omega)) ?_
    refine k_nc ?_
    refine k_t rfl ?_
    refine k_skip ?_
    refine c_norm ?_
    refine k_seq ?_
    refine k_b ?_
    refine k_seq ?_
    refine k_q mixed (by kernel_rfl) H ?_
    refine q_run rfl rfl (fun _ H => r_mv (v := .slice _ _ _) rfl) ?_
    refine q_run rfl rfl (fun _ H => r_mv (v := .int _ _) rfl) ?_
    refine q_run rfl rfl (fun _ H => r_ix1o rfl rfl rfl (by omega) Try.underlying42 sz3) ?_
    refine q_run rfl rfl (fun _ H => r_lr H rfl cx (by simp) ag3) ?_
    refine q_run rfl rfl (fun _ H => r_mv (v := .slice _ _ _) rfl) ?_
    refine q_run rfl rfl (fun _ H => r_mv (v := .int _ _) rfl) ?_
    refine q_run rfl rfl (fun _ H => r_ix1o rfl rfl rfl (by omega) Try.underlying42 sz3) ?_
    refine q_run rfl rfl (fun _ H => r_lr H rfl cy (by simp) ag3) ?_
    refine q_run rfl rfl (fun _ H => r_neqT rfl rfl (by omega)) ?_
    refine q_nil ?_
    intro _ H'; clear H; have H := H'; clear H'
    refine c_norm ?_
    refine k_t rfl ?_
    refine k_sg ?_
    refine s_run rfl rfl (rab rfl) ?_
    refine k_nc ?_
    refine k_ret ?_
    refine b_ret ?_
    refine c_ret ?_
    refine c_ret ?_
    refine b_ret ?_
    refine c_ret ?_
    refine fin1r (v := .bool _) rfl rfl ?_
    exact ⟨by rw [same_no he], H.only⟩
  ·obtain ⟨f, rfl⟩ := live3 h0 h1 h2
   clear h0 h1 h2
   obtain rfl : k = n := by omega
   refine k_seq ?_
   refine k_sg ?_
   refine s_run rfl rfl (rmi rfl) ?_
   refine s_run rfl rfl (rms rfl) ?_
   refine s_run rfl rfl (r_len rfl Try.underlying42) ?_
   refine s_run rfl rfl (r_lssF rfl rfl (by omega)) ?_
   refine k_nc ?_
   refine k_f rfl ?_
   refine k_exit ?_
   refine c_exit ?_
   refine c_exit ?_
   refine b_hit ?_
   refine c_norm ?_
   refine k_sg ?_
   refine s_run rfl rfl (rab rfl) ?_
   refine k_nc ?_
   refine k_ret ?_
   refine fin1r (v := .bool _) rfl rfl ?_
   exact ⟨by rw [Nv.same, decide_eq_true (all_upto hall lx ly)], H.only⟩
 ·refine k_in (N := 26) Try.func90 rfl rfl rfl ?_
  refine k_sg ?_
  refine s_run rfl rfl (rab rfl) ?_
  refine k_nc ?_
  refine k_seq ?_
  refine k_sg ?_
  refine s_run rfl rfl (rms rfl) ?_
  refine s_run rfl rfl (r_len rfl Try.underlying42) ?_
  refine s_run rfl rfl (rms rfl) ?_
  refine s_run rfl rfl (r_len rfl Try.underlying42) ?_
  refine s_run rfl rfl (r_neqT rfl rfl (by omega)) ?_
  refine k_nc ?_
  refine k_t rfl ?_
  refine k_sg ?_
  refine s_run rfl rfl (rab rfl) ?_
  refine k_nc ?_
  refine k_ret ?_
  refine c_ret ?_
  refine fin1r (v := .bool _) rfl rfl ?_
  exact ⟨by rw [same_len (by omega)], H.only⟩
theorem rSame (A B : Option Addr) (n n2 c c2 : Nat) (xs ys : List Int) (w : World) (hx : Sees (Value.int .u64) w [] A xs) (hy : Sees (Value.int .u64) w [] B ys) (lx : xs.length = n) (ly : ys.length = n2) (hn : n ≤ 1000000 ∧ n2 ≤ 1000000) :
  Calls Try.prog 42 [.slice A n c, .slice B n2 c2].toArray w fun e w' => e = .returned (.bool (Nv.same xs ys)) ∧ Only [] w w' := by
 have H := Heap.nil w
 by_cases hne : n = n2
 ·subst hne
  refine k_in (N := 26) Try.func42 rfl rfl rfl ?_
  refine k_sg ?_
  refine s_run rfl rfl (rab rfl) ?_
  refine k_nc ?_
  refine k_seq ?_
  refine k_sg ?_
  refine s_run rfl rfl (rms rfl) ?_
  refine s_run rfl rfl (r_len rfl Try.underlying25) ?_
  refine s_run rfl rfl (rms rfl) ?_
  refine s_run rfl rfl (r_len rfl Try.underlying25) ?_
  refine s_run rfl rfl (r_neqF rfl rfl (by omega)) ?_
  refine k_nc ?_
  refine k_f rfl ?_
  refine k_skip ?_
  refine c_norm ?_
  refine k_seq ?_
  refine k_sg ?_
  refine s_run rfl rfl (rai rfl) ?_
  refine k_nc ?_
  refine k_b ?_
  refine k_loop (fun m f W => ∃ k : Nat, k ≤ n ∧ m = n - k ∧ (∀ i, i < k → xs.getD i default = ys.getD i default) ∧ f 0 = .slice A n c ∧ f 1 = .slice B n c2 ∧ f 5 = .int .i64 k ∧ Heap w [] [] W) n ⟨0, by omega, by omega, by omega, rfl, rfl, rfl, H⟩ ?_
  clear H
  rintro m f W ⟨k, hk, rfl, hall, h0, h1, h2, H⟩
  by_cases hlt : k < n
  ·obtain ⟨b, o, rfl, _, hrx⟩ := hx (by omega)
   obtain ⟨b2, o2, rfl, _, hry⟩ := hy (by omega)
   obtain ⟨f, rfl⟩ := live3 h0 h1 h2
   clear h0 h1 h2
   have cx := hrx k _ (getE (by omega))
   have cy := hry k _ (getE (by omega))
   by_cases he : xs.getD k default = ys.getD k default
   ·refine k_seq ?_
    refine k_sg ?_
    refine s_run rfl rfl (rmi rfl) ?_
    refine s_run rfl rfl (rms rfl) ?_
    refine s_run rfl rfl (r_len rfl Try.underlying25) ?_
    refine s_run rfl rfl (r_lssT rfl rfl (by omega)) ?_
    refine k_nc ?_
    refine k_t rfl ?_
    refine k_skip ?_
    refine c_norm ?_
    refine k_seq ?_
    refine k_b ?_
    refine k_seq ?_
    refine k_q mixed (by kernel_rfl) H ?_
    refine q_run rfl rfl (fun _ H => r_mv (v := .slice _ _ _) rfl) ?_
    refine q_run rfl rfl (fun _ H => r_mv (v := .int _ _) rfl) ?_
    refine q_run rfl rfl (fun _ H => r_ix1o rfl rfl rfl (by omega) Try.underlying25 sz22) ?_
    refine q_run rfl rfl (fun _ H => r_lr H rfl cx (by simp) ag22) ?_
    refine q_run rfl rfl (fun _ H => r_mv (v := .slice _ _ _) rfl) ?_
    refine q_run rfl rfl (fun _ H => r_mv (v := .int _ _) rfl) ?_
    refine q_run rfl rfl (fun _ H => r_ix1o rfl rfl rfl (by omega) Try.underlying25 sz22) ?_
    refine q_run rfl rfl (fun _ H => r_lr H rfl cy (by simp) ag22) ?_
    refine q_run rfl rfl (fun _ H => r_neqF rfl rfl (by omega)) ?_
    refine q_nil ?_
    intro _ H'; clear H; have H := H'; clear H'
    refine c_norm ?_
    refine k_f rfl ?_
    refine k_skip ?_
    refine b_norm ?_
    refine c_norm ?_
    refine k_rg ?_
    refine s_run rfl rfl (rmi rfl) ?_
    refine s_run rfl rfl (r_add rfl rfl (wI (by omega))) ?_
    refine s_run rfl rfl (rai rfl) ?_
    refine k_nil ?_
    refine c_round ?_
    refine ⟨_, _, ?_, rfl, k + 1, by omega, rfl, fun i hi => ?_, rfl, rfl, rfl, H⟩
    ·omega
    ·by_cases hik : i = k
     ·subst hik; exact he
     ·exact hall i (by omega)
   ·refine k_seq ?_
    refine k_sg ?_
    refine s_run rfl rfl (rmi rfl) ?_
    refine s_run rfl rfl (rms rfl) ?_
    refine s_run rfl rfl (r_len rfl Try.underlying25) ?_
    refine s_run rfl rfl (r_lssT rfl rfl (by omega)) ?_
    refine k_nc ?_
    refine k_t rfl ?_
    refine k_skip ?_
    refine c_norm ?_
    refine k_seq ?_
    refine k_b ?_
    refine k_seq ?_
    refine k_q mixed (by kernel_rfl) H ?_
    refine q_run rfl rfl (fun _ H => r_mv (v := .slice _ _ _) rfl) ?_
    refine q_run rfl rfl (fun _ H => r_mv (v := .int _ _) rfl) ?_
    refine q_run rfl rfl (fun _ H => r_ix1o rfl rfl rfl (by omega) Try.underlying25 sz22) ?_
    refine q_run rfl rfl (fun _ H => r_lr H rfl cx (by simp) ag22) ?_
    refine q_run rfl rfl (fun _ H => r_mv (v := .slice _ _ _) rfl) ?_
    refine q_run rfl rfl (fun _ H => r_mv (v := .int _ _) rfl) ?_
    refine q_run rfl rfl (fun _ H => r_ix1o rfl rfl rfl (by omega) Try.underlying25 sz22) ?_
    refine q_run rfl rfl (fun _ H => r_lr H rfl cy (by simp) ag22) ?_
    refine q_run rfl rfl (fun _ H => r_neqT rfl rfl (by omega)) ?_
    refine q_nil ?_
    intro _ H'; clear H; have H := H'; clear H'
    refine c_norm ?_
    refine k_t rfl ?_
    refine k_sg ?_
    refine s_run rfl rfl (rab rfl) ?_
    refine k_nc ?_
    refine k_ret ?_
    refine b_ret ?_
    refine c_ret ?_
    refine c_ret ?_
    refine b_ret ?_
    refine c_ret ?_
    refine fin1r (v := .bool _) rfl rfl ?_
    exact ⟨by rw [same_no he], H.only⟩
  ·obtain ⟨f, rfl⟩ := live3 h0 h1 h2
   clear h0 h1 h2
   obtain rfl : k = n := by omega
   refine k_seq ?_
   refine k_sg ?_
   refine s_run rfl rfl (rmi rfl) ?_
   refine s_run rfl rfl (rms rfl) ?_
   refine s_run rfl rfl (r_len rfl Try.underlying25) ?_
   refine s_run rfl rfl (r_lssF rfl rfl (by omega)) ?_
   refine k_nc ?_
   refine k_f rfl ?_
   refine k_exit ?_
   refine c_exit ?_
   refine c_exit ?_
   refine b_hit ?_
   refine c_norm ?_
   refine k_sg ?_
   refine s_run rfl rfl (rab rfl) ?_
   refine k_nc ?_
   refine k_ret ?_
   refine fin1r (v := .bool _) rfl rfl ?_
   exact ⟨by rw [Nv.same, decide_eq_true (all_upto hall lx ly)], H.only⟩
 ·refine k_in (N := 26) Try.func42 rfl rfl rfl ?_
  refine k_sg ?_
  refine s_run rfl rfl (rab rfl) ?_
  refine k_nc ?_
  refine k_seq ?_
  refine k_sg ?_
  refine s_run rfl rfl (rms rfl) ?_
  refine s_run rfl rfl (r_len rfl Try.underlying25) ?_
  refine s_run rfl rfl (rms rfl) ?_
  refine s_run rfl rfl (r_len rfl Try.underlying25) ?_
  refine s_run rfl rfl (r_neqT rfl rfl (by omega)) ?_
  refine k_nc ?_
  refine k_t rfl ?_
  refine k_sg ?_
  refine s_run rfl rfl (rab rfl) ?_
  refine k_nc ?_
  refine k_ret ?_
  refine c_ret ?_
  refine fin1r (v := .bool _) rfl rfl ?_
  exact ⟨by rw [same_len (by omega)], H.only⟩
theorem take_part {zs : List Int} {m k : Nat} (hl : zs.length = 8 * m) (hk : k < m) : zs.take (8 * k) ++ Nv.part zs k = zs.take (8 * (k + 1)) := by
 unfold Nv.part
 rw [show 8 * (k + 1) = 8 * k + 8 from by omega, List.take_add]
theorem rAll (A : Option Addr) (m c : Nat) (zs : List Int) (w : World) (hz : Sees (Value.int .u64) w [] A zs) (hl : zs.length = 8 * m) (hm : m ≤ 100000) :
  Calls Try.prog 43 [.slice A m c].toArray w fun e w' => ∃ A' b c', e = .returned (.slice A' (8 * m) c') ∧ (8 * m ≠ 0 → A' = some ⟨b, 0, none⟩) ∧ Heap w [] [vec (Value.int .u64) b zs 22] w' := by
 have H := Heap.nil w
 refine k_in (N := 18) Try.func43 rfl rfl rfl ?_
 refine k_sg ?_
 refine s_run rfl rfl (ras rfl) ?_
 refine k_nc ?_
 refine k_sg ?_
 refine s_run rfl rfl (ras rfl) ?_
 refine k_nc ?_
 refine k_seq ?_
 refine k_sg ?_
 refine s_run rfl rfl (rai rfl) ?_
 refine k_nc ?_
 refine k_b ?_
 refine k_loop (fun q f W => ∃ (k : Nat) (A' : Option Addr) (c' : Nat), k ≤ m ∧ q = m - k ∧ f 0 = .slice A m c ∧ f 3 = .slice A' (8 * k) c' ∧ f 4 = .int .i64 k ∧ Heap w [] [ownN 1 (.slice A' (8 * k) c') (8 * k) ((zs.take (8 * k)).map (Value.int .u64)) 22] W) m ⟨0, none, 0, by omega, rfl, rfl, rfl, rfl, H.own_nil 1 22⟩ ?_
 clear H
 rintro q f W ⟨k, A', c', hk, rfl, h0, h3, h4, H⟩
 by_cases hlt : k < m
 ·obtain ⟨b, o, rfl, _, hr⟩ := hz (by omega)
  obtain ⟨f, rfl⟩ := live3 h0 h3 h4
  clear h0 h3 h4
  have hp := reads_part (m := m) (i := k) hr hl hlt
  refine k_seq ?_
  refine k_sg ?_
  refine s_run rfl rfl (rmi rfl) ?_
  refine s_run rfl rfl (rms rfl) ?_
  refine s_run rfl rfl (r_len rfl Try.underlying52) ?_
  refine s_run rfl rfl (r_lssT rfl rfl (by omega)) ?_
  refine k_nc ?_
  refine k_t rfl ?_
  refine k_skip ?_
  refine c_norm ?_
  refine k_seq ?_
  refine k_b ?_
  refine k_rg ?_
  refine s_run rfl rfl (rms rfl) ?_
  refine s_run rfl rfl (rms rfl) ?_
  refine s_run rfl rfl (rmi rfl) ?_
  refine s_run rfl rfl (r_ix rfl rfl rfl (by omega) Try.underlying52 sz124) ?_
  refine s_run rfl rfl (r_sla rfl Try.underlying124 sz22 (by omega)) ?_
  refine s_apps (enc := (Value.int .u64))  H 0 rfl rfl rfl rfl ((fun _ => ⟨_, _, rfl, by simp, hp⟩)) (Nv.length_part (by omega)) (fun _ => rfl) (by omega) Try.underlying25 inf22 rfl ?_
  intro A2 c2 _ _ H'; simp only [List.set_cons_zero, List.set_cons_succ, List.take_succ_cons, List.take_zero, List.drop_succ_cons, List.drop_zero, List.cons_append, List.nil_append, List.append_nil, List.length_cons, List.length_nil, Nat.reduceAdd] at H'; clear H; have H := H'; clear H'
  refine s_run rfl rfl (ras rfl) ?_
  refine k_nil ?_
  refine b_norm ?_
  refine c_norm ?_
  refine k_rg ?_
  refine s_run rfl rfl (rmi rfl) ?_
  refine s_run rfl rfl (r_add rfl rfl (wI (by omega))) ?_
  refine s_run rfl rfl (rai rfl) ?_
  refine k_nil ?_
  refine c_round ?_
  rw [take_part hl hlt, show 8 * k + 8 = 8 * (k + 1) from by omega] at H
  refine ⟨_, _, ?_, rfl, k + 1, A2, c2, by omega, rfl, rfl, ?_, rfl, H⟩
  ·omega
  ·rw [show 8 * (k + 1) = 8 * k + 8 from by omega]; rfl
 ·obtain ⟨f, rfl⟩ := live3 h0 h3 h4
  clear h0 h3 h4
  obtain rfl : k = m := by omega
  refine k_seq ?_
  refine k_sg ?_
  refine s_run rfl rfl (rmi rfl) ?_
  refine s_run rfl rfl (rms rfl) ?_
  refine s_run rfl rfl (r_len rfl Try.underlying52) ?_
  refine s_run rfl rfl (r_lssF rfl rfl (by omega)) ?_
  refine k_nc ?_
  refine k_f rfl ?_
  refine k_exit ?_
  refine c_exit ?_
  refine c_exit ?_
  refine b_hit ?_
  refine c_norm ?_
  refine k_sg ?_
  refine s_run rfl rfl (rms rfl) ?_
  refine s_run rfl rfl (ras rfl) ?_
  refine k_nc ?_
  refine k_ret ?_
  refine fin1r (v := .slice _ _ _) rfl rfl ?_
  rw [List.take_of_length_le (by omega)] at H
  obtain ⟨b, hb, H3⟩ := own_vec0 H
  exact ⟨A', b, c', rfl, hb, H3⟩
end Go.Proofs.Ytmekhdclnhhhbaa
end

section
namespace Go.Proofs.Ytmekhdclnhhhbaa
open Go.RowKit
def flat (zs : List Int) (k : Nat) : List Int := zs.take k ++ List.replicate (8 * ((k + 7) / 8) - k) 0
theorem flat_len (zs : List Int) (k : Nat) (h : k ≤ zs.length) : (flat zs k).length = 8 * ((k + 7) / 8) := by simp [flat]; omega
theorem set_at (xs : List Int) (k r : Nat) (z : Int) (h : xs.length = k) (hr : 0 < r) : (xs ++ List.replicate r 0).set k z = xs ++ [z] ++ List.replicate (r - 1) 0 := by
 obtain ⟨r, rfl⟩ : ∃ q, r = q + 1 := ⟨r - 1, by omega⟩
 rw [List.set_append_right _ _ (by omega), h, Nat.sub_self, List.replicate_succ, List.set_cons_zero]
 simp
theorem flat_next0 {zs : List Int} {k : Nat} {z : Int} (hz : zs[k]? = some z) (h8 : k % 8 = 0) : (flat zs k ++ [0, 0, 0, 0, 0, 0, 0, 0]).set k z = flat zs (k + 1) := by
 have hk : k < zs.length := (List.getElem?_eq_some_iff.1 hz).1
 have e1 : flat zs k = zs.take k := by unfold flat; rw [show 8 * ((k + 7) / 8) - k = 0 from by omega]; simp
 rw [e1]
 have := set_at (zs.take k) k 8 z (by simp; omega) (by omega)
 rw [show List.replicate 8 (0 : Int) = [0, 0, 0, 0, 0, 0, 0, 0] from rfl] at this
 rw [this]
 unfold flat
 rw [take_succ_of hz, show 8 * ((k + 1 + 7) / 8) - (k + 1) = 7 from by omega]
theorem flat_next1 {zs : List Int} {k : Nat} {z : Int} (hz : zs[k]? = some z) (h8 : ¬ k % 8 = 0) : (flat zs k).set k z = flat zs (k + 1) := by
 have hk : k < zs.length := (List.getElem?_eq_some_iff.1 hz).1
 unfold flat
 rw [set_at (zs.take k) k _ z (by simp; omega) (by omega), take_succ_of hz]
 congr 2
 omega
def nilDev : List Value := [.slice none 0 0, .slice none 0 0, .slice none 0 0, .slice none 0 0, .slice none 0 0, .int .i64 0, .int .i64 0, .bool false]
theorem rLoad (A : Option Addr) (n c : Nat) (zs : List Int) (F : List Nat) (w : World) (hz : Sees (Value.int .u64) w [] A zs) (hl : zs.length = n) (hn : n ≤ 500000) (hF : ∀ i ∈ F, i < w.heap.size) :
  Calls Try.prog 44 [.slice A n c].toArray w fun e w' => ∃ s', e = .returned (.agg (refCells s' (Nv.load (zs ++ List.replicate (8 * ((n + 7) / 8) - n) 0) ((n + 7) / 8)) ((n + 7) / 8)).toArray) ∧ Heap w [] [] w' ∧ RefOk w' F s' (Nv.load (zs ++ List.replicate (8 * ((n + 7) / 8) - n) 0) ((n + 7) / 8)) ((n + 7) / 8) := by
 have H := Heap.nil w
 refine k_in (N := 55) Try.func44 rfl rfl rfl ?_
 refine k_sg ?_
 refine s_al H rfl inf55 ?_
 intro p2 _ H'; clear H; have H := H'; clear H'
 refine k_nc ?_
 refine k_sg ?_
 refine s_al H rfl inf55 ?_
 intro p3 _ H'; clear H; have H := H'; clear H'
 refine k_nc ?_
 refine k_seq ?_
 refine k_sg ?_
 refine s_run rfl rfl (rai rfl) ?_
 refine k_nc ?_
 refine k_b ?_
 refine k_loop (fun q f W => ∃ (k : Nat) (B : Option Addr) (cb : Nat), k ≤ n ∧ q = n - k ∧ (k ≠ 0 → ∃ b, B = some ⟨b, 0, none⟩) ∧ f 0 = .slice A n c ∧ f 2 = ptr p2 ∧ f 3 = ptr p3 ∧ f 4 = .int .i64 k ∧ Heap w [] [ownN 8 (.slice B ((k + 7) / 8) cb) ((k + 7) / 8) ((flat zs k).map (Value.int .u64)) 124, blk p3 [.slice B ((k + 7) / 8) cb, .slice none 0 0, .slice none 0 0, .slice none 0 0, .slice none 0 0, .int .i64 0, .int .i64 0, .bool false] 55, blk p2 nilDev 55] W) n ⟨0, none, 0, by omega, rfl, fun h => absurd rfl h, rfl, rfl, rfl, rfl, by rw [show flat zs 0 = [] from rfl]; exact H.own_nil 8 124⟩ ?_
 clear H
 rintro q f W ⟨k, B, cb, hk, rfl, hB, h0, h2, h3, h4, H⟩
 obtain ⟨f, rfl⟩ := live4 h0 h2 h3 h4
 clear h0 h2 h3 h4
 by_cases hlt : k < n
 ·have hzk := getE (xs := zs) (i := k) (by omega)
  obtain ⟨b0, o0, rfl, _, hr⟩ := hz (by omega)
  have hcell := hr k _ hzk
  have hfl := flat_len zs k (by omega)
  have hfl1 := flat_len zs (k + 1) (by omega)
  by_cases h8 : k % 8 = 0
  ·have hnx := flat_next0 hzk h8
   have em : (k + 7) / 8 + 1 = (k + 1 + 7) / 8 := by omega
   have hlen8 : (flat zs k ++ [0, 0, 0, 0, 0, 0, 0, 0]).length = 8 * ((k + 7) / 8) + 8 := by rw [List.length_append, hfl]; rfl
   refine k_seq ?_
   refine k_sg ?_
   refine s_run rfl rfl (rmi rfl) ?_
   refine s_run rfl rfl (rms rfl) ?_
   refine s_run rfl rfl (r_len rfl Try.underlying25) ?_
   refine s_run rfl rfl (r_lssT rfl rfl (by omega)) ?_
   refine k_nc ?_
   refine k_t rfl ?_
   refine k_skip ?_
   refine c_norm ?_
   refine k_seq ?_
   refine k_b ?_
   refine k_seq ?_
   refine k_sg ?_
   refine s_run rfl rfl (rmi rfl) ?_
   refine s_run rfl rfl (r_rem rfl rfl (by omega)) ?_
   refine s_run rfl rfl (r_eqlT rfl rfl (by omega)) ?_
   refine k_nc ?_
   refine k_t rfl ?_
   refine k_rg ?_
   refine s_run rfl rfl (r_fa0 rfl fo55_0) ?_
   refine s_run rfl rfl (r_lo H 1 rfl rfl rfl ag52) ?_
   refine s_run rfl rfl (r_bd (bd124 ) rfl) ?_
   refine s_appN (enc := (Value.int .u64)) (zs := [0, 0, 0, 0, 0, 0, 0, 0]) H 0 rfl rfl rfl rfl (fun _ => rfl) (by omega) (by kernel_rfl) rfl rfl rfl (by omega) Try.underlying52 inf124 rfl ?_
   intro _ bn cn _ H'; simp only [List.set_cons_zero, List.set_cons_succ, List.take_succ_cons, List.take_zero, List.drop_succ_cons, List.drop_zero, List.cons_append, List.nil_append, List.append_nil, List.length_cons, List.length_nil, Nat.reduceAdd] at H'; clear H; have H := H'; clear H'
   refine s_run rfl rfl (r_fa0 rfl fo55_0) ?_
   refine s_st (u := .slice _ _ _) H 1 rfl rfl rfl rfl rfl rfl sz52 ?_
   clear H; intro _ H; simp only [jA, jB, jC, jD, jE, jF, jG, jH, jI, jJ, jK, Nat.reduceAdd] at H
   refine k_nc ?_
   refine k_qt 12 mixed (by kernel_rfl) H rfl rfl ?_
   refine q_run rfl rfl (fun _ H => r_fa0 rfl fo55_0) ?_
   refine q_run rfl rfl (fun _ H => r_lo H 1 rfl rfl rfl ag52) ?_
   refine q_run rfl rfl (fun _ H => r_mv (v := .int _ _) rfl) ?_
   refine q_run rfl rfl (fun _ H => r_quo rfl rfl (by omega) (wI (by omega))) ?_
   refine q_run rfl rfl (fun _ H => r_mv (v := .int _ _) rfl) ?_
   refine q_run rfl rfl (fun _ H => r_rem rfl rfl (by omega)) ?_
   refine q_run rfl rfl (fun _ H => r_mv (v := .slice _ _ _) rfl) ?_
   refine q_run rfl rfl (fun _ H => r_mv (v := .int _ _) rfl) ?_
   refine q_run rfl rfl (fun _ H => r_ix1o rfl rfl rfl (by omega) Try.underlying25 sz22) ?_
   refine q_run rfl rfl (fun _ H => r_lr H rfl hcell (by simp) ag22) ?_
   refine q_run rfl rfl (fun _ H => r_ix0 (i := k / 8) rfl rfl (by omega) (by omega) Try.underlying52 sz124) ?_
   refine q_run rfl rfl (fun _ H => r_ia1 (i := k % 8) rfl rfl (by omega) (by omega) Try.underlying124 sz22) ?_
   refine q_nil ?_
   intro _ H'; clear H; have H := H'; clear H'
   refine s_so (enc := Value.int .u64) (xs := flat zs k ++ [0, 0, 0, 0, 0, 0, 0, 0]) (z := zs.getD k default) H 0 rfl rfl rfl rfl rfl (by rw [hlen8]; omega) rfl sz22 ?_
   clear H; intro _ H; simp only [jA, jB, jC, jD, jE, jF, jG, jH, jI, jJ, jK, Nat.reduceAdd] at H
   refine k_nil ?_
   refine b_norm ?_
   refine c_norm ?_
   refine k_rg ?_
   refine s_run rfl rfl (rmi rfl) ?_
   refine s_run rfl rfl (r_add rfl rfl (wI (by omega))) ?_
   refine s_run rfl rfl (rai rfl) ?_
   refine k_nil ?_
   refine c_round ?_
   have e1 : k / 8 * 8 + k % 8 = k := by omega
   rw [e1, hnx] at H
   refine ⟨_, _, ?_, rfl, k + 1, some ⟨bn, 0, none⟩, cn, by omega, rfl, fun _ => ⟨bn, rfl⟩, rfl, rfl, rfl, rfl, ?_⟩
   ·omega
   ·rw [← em]; exact H
  ·have hnx := flat_next1 hzk h8
   obtain ⟨b, rfl⟩ := hB (by omega)
   have em : (k + 7) / 8 = (k + 1 + 7) / 8 := by omega
   refine k_seq ?_
   refine k_sg ?_
   refine s_run rfl rfl (rmi rfl) ?_
   refine s_run rfl rfl (rms rfl) ?_
   refine s_run rfl rfl (r_len rfl Try.underlying25) ?_
   refine s_run rfl rfl (r_lssT rfl rfl (by omega)) ?_
   refine k_nc ?_
   refine k_t rfl ?_
   refine k_skip ?_
   refine c_norm ?_
   refine k_seq ?_
   refine k_b ?_
   refine k_seq ?_
   refine k_sg ?_
   refine s_run rfl rfl (rmi rfl) ?_
   refine s_run rfl rfl (r_rem rfl rfl (by omega)) ?_
   refine s_run rfl rfl (r_eqlF rfl rfl (by omega)) ?_
   refine k_nc ?_
   refine k_f rfl ?_
   refine k_skip ?_
   refine c_norm ?_
   refine k_qt 12 mixed (by kernel_rfl) H rfl rfl ?_
   refine q_run rfl rfl (fun _ H => r_fa0 rfl fo55_0) ?_
   refine q_run rfl rfl (fun _ H => r_lo H 1 rfl rfl rfl ag52) ?_
   refine q_run rfl rfl (fun _ H => r_mv (v := .int _ _) rfl) ?_
   refine q_run rfl rfl (fun _ H => r_quo rfl rfl (by omega) (wI (by omega))) ?_
   refine q_run rfl rfl (fun _ H => r_mv (v := .int _ _) rfl) ?_
   refine q_run rfl rfl (fun _ H => r_rem rfl rfl (by omega)) ?_
   refine q_run rfl rfl (fun _ H => r_mv (v := .slice _ _ _) rfl) ?_
   refine q_run rfl rfl (fun _ H => r_mv (v := .int _ _) rfl) ?_
   refine q_run rfl rfl (fun _ H => r_ix1o rfl rfl rfl (by omega) Try.underlying25 sz22) ?_
   refine q_run rfl rfl (fun _ H => r_lr H rfl hcell (by simp) ag22) ?_
   refine q_run rfl rfl (fun _ H => r_ix0 (i := k / 8) rfl rfl (by omega) (by omega) Try.underlying52 sz124) ?_
   refine q_run rfl rfl (fun _ H => r_ia1 (i := k % 8) rfl rfl (by omega) (by omega) Try.underlying124 sz22) ?_
   refine q_nil ?_
   intro _ H'; clear H; have H := H'; clear H'
   refine s_so (z := zs.getD k default) H 0 rfl rfl rfl rfl rfl (by rw [hfl]; omega) rfl sz22 ?_
   clear H; intro _ H; simp only [jA, jB, jC, jD, jE, jF, jG, jH, jI, jJ, jK, Nat.reduceAdd] at H
   refine k_nil ?_
   refine b_norm ?_
   refine c_norm ?_
   refine k_rg ?_
   refine s_run rfl rfl (rmi rfl) ?_
   refine s_run rfl rfl (r_add rfl rfl (wI (by omega))) ?_
   refine s_run rfl rfl (rai rfl) ?_
   refine k_nil ?_
   refine c_round ?_
   have e1 : k / 8 * 8 + k % 8 = k := by omega
   rw [e1, hnx] at H
   refine ⟨_, _, ?_, rfl, k + 1, some ⟨b, 0, none⟩, cb, by omega, rfl, fun _ => ⟨b, rfl⟩, rfl, rfl, rfl, rfl, ?_⟩
   ·omega
   ·rw [← em]; exact H
 ·obtain rfl : k = n := by omega
  have hfin : flat zs k = zs ++ List.replicate (8 * ((k + 7) / 8) - k) 0 := by unfold flat; rw [List.take_of_length_le (by omega)]
  have hfl := flat_len zs k (by omega)
  rw [← hfin]
  generalize flat zs k = fz at *
  have hq : (k + 7) / 8 ≤ 100000 := by omega
  generalize (k + 7) / 8 = m at *
  obtain ⟨b, hb, hlb, H⟩ := own_vecN (by omega) H
  have HB := H
  have hnd := HB.nd
  clear H
  have H := Heap.start HB.drop.ents
  generalize hG : ids [blk p3 [.slice B m cb, .slice none 0 0, .slice none 0 0, .slice none 0 0, .slice none 0 0, .int .i64 0, .int .i64 0, .bool false] 55, blk p2 nilDev 55] = G at H
  have hS : Sees (Value.int .u64) W G B fz := by
   intro h0
   refine ⟨b, 0, hb (by omega), ?_, HB.reads0 0 rfl⟩
   subst hG
   intro hm
   rw [ids_cons] at hnd
   exact (List.nodup_append.1 hnd).2.2 b (by simp [vec, h0]) b hm rfl
  have H := H.own_nil 8 124
  refine k_seq ?_
  refine k_sg ?_
  refine s_run rfl rfl (rmi rfl) ?_
  refine s_run rfl rfl (rms rfl) ?_
  refine s_run rfl rfl (r_len rfl Try.underlying25) ?_
  refine s_run rfl rfl (r_lssF rfl rfl (by omega)) ?_
  refine k_nc ?_
  refine k_f rfl ?_
  refine k_exit ?_
  refine c_exit ?_
  refine c_exit ?_
  refine b_hit ?_
  refine c_norm ?_
  refine k_sg ?_
  refine s_run rfl rfl (r_fa0 rfl fo55_1) ?_
  refine s_run rfl rfl (r_lo H 1 rfl rfl rfl ag52) ?_
  refine s_run rfl rfl (r_fa0 rfl fo55_0) ?_
  refine s_run rfl rfl (r_lo H 1 rfl rfl rfl ag52) ?_
  refine s_apsN (enc := (Value.int .u64)) (xs := []) H 0 rfl rfl rfl rfl (hS) (by omega) (fun _ => rfl) (by omega) (by omega) Try.underlying52 inf124 rfl ?_
  intro A1 c1 _ H'; simp only [List.set_cons_zero, List.set_cons_succ, List.take_succ_cons, List.take_zero, List.drop_succ_cons, List.drop_zero, List.cons_append, List.nil_append, List.append_nil, List.length_cons, List.length_nil, Nat.reduceAdd] at H'; clear H; have H := H'; clear H'
  refine s_run rfl rfl (r_fa0 rfl fo55_1) ?_
  refine s_st (u := .slice _ _ _) H 1 rfl rfl rfl rfl rfl rfl sz52 ?_
  clear H; intro _ H; simp only [jA, jB, jC, jD, jE, jF, jG, jH, jI, jJ, jK, Nat.reduceAdd] at H
  refine k_nc ?_
  refine k_sg ?_
  refine s_run rfl rfl (r_fa0 rfl fo55_0) ?_
  refine s_run rfl rfl (r_lo H 1 rfl rfl rfl ag52) ?_
  refine s_run rfl rfl (r_len rfl Try.underlying52) ?_
  refine s_mkN (Value.int .u64) 0 8 (m := m) H rfl rfl rfl (by omega) (by omega) (by omega) Try.underlying52 inf124 rfl (by omega) ?_
  intro bw _ H'; clear H; have H := H'; clear H'
  refine s_run rfl rfl (r_fa0 rfl fo55_2) ?_
  refine s_st (u := .slice _ _ _) H 2 rfl rfl rfl rfl rfl rfl sz52 ?_
  clear H; intro _ H; simp only [jA, jB, jC, jD, jE, jF, jG, jH, jI, jJ, jK, Nat.reduceAdd] at H
  refine k_nc ?_
  refine k_sg ?_
  refine s_run rfl rfl (r_fa0 rfl fo55_0) ?_
  refine s_run rfl rfl (r_lo H 2 rfl rfl rfl ag52) ?_
  refine s_run rfl rfl (r_len rfl Try.underlying52) ?_
  refine s_mk Value.bool false (m := m) H rfl rfl rfl (by omega) (by omega) (by omega) Try.underlying53 inf4 rfl ?_
  intro bd _ H'; clear H; have H := H'; clear H'
  refine s_run rfl rfl (r_fa0 rfl fo55_3) ?_
  refine s_st (u := .slice _ _ _) H 3 rfl rfl rfl rfl rfl rfl sz53 ?_
  clear H; intro _ H; simp only [jA, jB, jC, jD, jE, jF, jG, jH, jI, jJ, jK, Nat.reduceAdd] at H
  refine k_nc ?_
  refine k_sg ?_
  refine s_run rfl rfl (r_fa0 rfl fo55_0) ?_
  refine s_run rfl rfl (r_lo H 3 rfl rfl rfl ag52) ?_
  refine s_run rfl rfl (r_len rfl Try.underlying52) ?_
  refine s_mk Value.bool false (m := m) H rfl rfl rfl (by omega) (by omega) (by omega) Try.underlying53 inf4 rfl ?_
  intro bp _ H'; clear H; have H := H'; clear H'
  refine s_run rfl rfl (r_fa0 rfl fo55_4) ?_
  refine s_st (u := .slice _ _ _) H 4 rfl rfl rfl rfl rfl rfl sz53 ?_
  clear H; intro _ H; simp only [jA, jB, jC, jD, jE, jF, jG, jH, jI, jJ, jK, Nat.reduceAdd] at H
  refine k_nc ?_
  refine k_sg ?_
  refine s_run rfl rfl (r_fa0 rfl fo55_6) ?_
  refine s_st (u := .int _ _) H 4 rfl rfl rfl rfl rfl rfl sz3 ?_
  clear H; intro _ H; simp only [jA, jB, jC, jD, jE, jF, jG, jH, jI, jJ, jK, Nat.reduceAdd] at H
  refine k_nc ?_
  refine k_sg ?_
  refine s_run rfl rfl (r_la H 4 rfl rfl rfl ag55 sz55) ?_
  refine s_sw H 5 rfl rfl rfl rfl rfl rfl rfl sz55 ?_
  clear H; intro _ H; simp only [jA, jB, jC, jD, jE, jF, jG, jH, jI, jJ, jK, Nat.reduceAdd] at H
  refine k_nc ?_
  refine k_ret ?_
  refine fx1r rfl (rv_a H 5 rfl rfl rfl ag55 sz55) ?_
  have HF := Heap.step (A := [blk p3 [.slice B m cb, .slice none 0 0, .slice none 0 0, .slice none 0 0, .slice none 0 0, .int .i64 0, .int .i64 0, .bool false] 55, blk p2 nilDev 55]) (L := [vec (Value.int .u64) b fz 124]) (HB.perm (by
   refine (List.Perm.swap _ _ _).trans (List.Perm.cons _ (List.Perm.swap _ _ _)))) H (by rw [← hG]; exact fun _ h => h)
  simp only [List.cons_append, List.nil_append] at HF
  have HP := HF.pick 3 rfl
  simp only [List.eraseIdx_cons_succ, List.eraseIdx_cons_zero] at HP
  rw [Nat.zero_add] at HP
  obtain ⟨b1, hb1, _, HP⟩ := own_vecN (by omega) HP
  refine ⟨⟨B, cb, A1, c1, some ⟨bw, 0, none⟩, m, some ⟨bd, 0, none⟩, m, some ⟨bp, 0, none⟩, m, -1⟩, ?_, HF.clear, ⟨?_, ?_, ?_, ?_, ?_, .inr ⟨rfl, rfl⟩, ⟨hfl, hfl, by simp [Nv.load, hfl], by simp [Nv.load], by simp [Nv.load]⟩⟩⟩
  ·simp only [refE, Nv.load, Nat.zero_add]
  ·exact HP.sees 6 rfl hF hb (fun h => by omega)
  ·exact HP.sees 0 rfl hF hb1 (fun h => by have h' : fz.length ≠ 0 := h; omega)
  ·have := HP.sees 3 rfl hF (A := some ⟨bw, 0, none⟩) (m := 1) (fun _ => rfl) (fun _ => by simp)
   rw [Nat.mul_comm, ← hfl] at this
   exact this
  ·exact HP.sees 2 rfl hF (A := some ⟨bd, 0, none⟩) (m := 1) (fun _ => rfl) (fun _ => by simp)
  ·exact HP.sees 1 rfl hF (A := some ⟨bp, 0, none⟩) (m := 1) (fun _ => rfl) (fun _ => by simp)
end Go.Proofs.Ytmekhdclnhhhbaa
end

section
namespace Go.Proofs.Ytmekhdclnhhhbaa
open Go.RowKit
end Go.Proofs.Ytmekhdclnhhhbaa
end
