/- Parts of the proof, one behind the other. -/
import Derived.Lib.AppendZeros
import Derived.Deep.Slices
import Derived.Deep.Fields
import Derived.ChangeSame
import Derived.Laws.BytesArg
import Derived.Deep.RegionHeld3
import Derived.Test.YtmekhdclnhhhbaaKImageSavesc
section
namespace Go.Proofs.Ytmekhdclnhhhbaa
open Go.RowKit
set_option linter.unusedSimpArgs false
set_option linter.unusedVariables false
theorem sees_cut {α : Type} {enc : α → Value} {W : World} {b o n c : Nat} {ws : List α} (hr : Reads enc W b o ws) (hl : ws.length = n) (hc : n ≤ c) (i j : Nat) (hij : i + j ≤ n) :
    Sees enc W [] (some (if c = i then (⟨b, o, none⟩ : Addr) else ⟨b, o + i * 1, none⟩)) ((ws.drop i).take j) := by
  intro h0
  have hj : 0 < j := by
    rcases Nat.eq_zero_or_pos j with h | h
    · subst h; simp at h0
    · exact h
  rw [if_neg (by omega)]
  refine ⟨b, o + i * 1, rfl, by simp, fun k z hk => ?_⟩
  rw [List.getElem?_take] at hk
  split at hk
  · rw [List.getElem?_drop] at hk
    have := hr _ z hk
    rwa [← Nat.add_assoc, ← Nat.mul_one i] at this
  · cases hk
theorem iRSave (A : Option Addr) (n c : Nat) (ws : List Int) (w : World) (hz : Sees (Value.int .u64) w [] A ws) (hl : ws.length = n) (hU : Im.U ws) (hn : n ≤ 160000) (hnc : n ≤ c ∧ c ≤ 9223372036854775807) :
    Calls Try.prog 51 [.slice A n c].toArray w (Gives .u8 5 (Im.save ws) w) := by
  have H := Heap.nil w
  have hbl := Im.body_len ws.length ws (Nat.le_refl _)
  have hhU := Im.head_bd (l := ws) (by omega) hU
  have hoU := Im.out_bd (l := ws) (by omega) hU
  refine k_in (N := 69) Try.func51 rfl rfl rfl ?_
  refine k_seq ?_
  refine k_rg ?_
  refine s_run rfl rfl (r_as (v := .slice _ _ _) rfl) ?_
  refine k_nil ?_
  refine c_norm ?_
  refine k_seq ?_
  refine k_rg ?_
  refine s_run rfl rfl (r_mv (v := .slice _ _ _) rfl) ?_
  refine s_run rfl rfl (r_len rfl Try.underlying25) ?_
  refine s_run rfl rfl (r_cv rfl (by kernel_rfl) Try.underlying22 (wU (by omega))) ?_
  refine s_bsO (enc := (Value.int .u64)) (zs := [13905993476890996, (n : Int)]) H rfl rfl rfl (by omega) (by kernel_rfl) Try.underlying25 inf22 ?_
  intro po _ H'; clear H; have H := H'; clear H'
  refine s_run rfl rfl (r_as (v := .slice _ _ _) rfl) ?_
  refine k_nil ?_
  refine c_norm ?_
  refine k_seq ?_
  refine k_rg ?_
  refine s_run rfl rfl (r_as (v := .int _ _) rfl) ?_
  refine k_nil ?_
  refine c_norm ?_
  refine k_seq ?_
  refine k_b ?_
  refine k_loop (fun z f W => ∃ (i : Nat) (A2 : Option Addr) (c2 q : Nat) (l : List Int), i ≤ n ∧ z = n - i ∧ l ++ Im.body (ws.drop i) = Im.head ws ∧ q = l.length ∧ f 0 = .slice A n c ∧ f 3 = .slice A2 q c2 ∧ f 4 = .int .i64 i ∧ Heap w [] [ownN 1 (.slice A2 q c2) q (l.map (Value.int .u64)) 22] W) n ⟨0, some ⟨po, 0, none⟩, 2, 2, [Im.magic, (n : Int)], by omega, rfl, by rw [← hl]; rfl, rfl, rfl, rfl, rfl, H⟩ ?_
  clear H
  rintro z f W ⟨i, A2, c2, q, l, hi, rfl, hb, hq, f0, f3, f4, H⟩
  obtain ⟨f, rfl⟩ := live3 f0 f3 f4
  clear f0 f3 f4
  have hqb : q ≤ (Im.body ws).length + 2 := by
    have := congrArg List.length hb
    simp only [Im.head, List.length_append, List.length_cons] at this
    omega
  by_cases hlt : i < n
  · obtain ⟨b, o, rfl, _, hr⟩ := hz (by omega)
    obtain ⟨Z, R, hR, hb1, hb2, hb3, hs, hLl, hg1, hg2, hg3, hg4⟩ := run_at ws i n hl hlt w b o hr
    have hbody : Im.body (ws.drop i) = (Z : Int) :: (Im.nr R : Int) :: (R.take (Im.nr R) ++ Im.body (ws.drop (i + Z + Im.nr R))) := by
      unfold Im.body
      rw [hs]
      simp [Im.encs, Im.enc1, hLl]
    refine k_seq ?_
    refine k_seq ?_
    refine k_rg ?_
    refine s_run rfl rfl (r_mv (v := .int _ _) rfl) ?_
    refine s_run rfl rfl (r_mv (v := .slice _ _ _) rfl) ?_
    refine s_run rfl rfl (r_len rfl Try.underlying25) ?_
    refine s_run rfl rfl (r_lssT rfl rfl (by omega)) ?_
    refine k_nil ?_
    refine c_norm ?_
    refine k_t rfl ?_
    refine k_skip ?_
    refine c_norm ?_
    refine k_b ?_
    refine k_seq ?_
    refine k_rg ?_
    refine s_run rfl rfl (r_mv (v := .int _ _) rfl) ?_
    refine s_run rfl rfl (r_as (v := .int _ _) rfl) ?_
    refine k_nil ?_
    refine c_norm ?_
    refine k_seq ?_
    refine k_cut (fun f W => f 0 = .slice (some ⟨b, o, none⟩) n c ∧ f 3 = .slice A2 q c2 ∧ f 4 = .int .i64 i ∧ f 5 = .int .i64 ((i + Z : Nat) : Int) ∧ Heap w [] [ownN 1 (.slice A2 q c2) q (l.map (Value.int .u64)) 22] W) ?_ ?_
    · refine k_b ?_
      refine k_loop (fun z f W => ∃ k : Nat, k ≤ Z ∧ z = n - k ∧ f 0 = .slice (some ⟨b, o, none⟩) n c ∧ f 3 = .slice A2 q c2 ∧ f 4 = .int .i64 i ∧ f 5 = .int .i64 ((i + k : Nat) : Int) ∧ Heap w [] [ownN 1 (.slice A2 q c2) q (l.map (Value.int .u64)) 22] W) n ⟨0, by omega, rfl, rfl, rfl, rfl, rfl, H⟩ ?_
      clear H
      rintro z f W ⟨k, hk, rfl, f0, f3, f4, f5, H⟩
      obtain ⟨f, rfl⟩ := live4 f0 f3 f4 f5
      clear f0 f3 f4 f5
      by_cases hlt2 : k < Z
      · have hc := hg1 k hlt2
        refine k_seq ?_
        refine k_seq ?_
        refine k_rg ?_
        refine s_run rfl rfl (r_mv (v := .int _ _) rfl) ?_
        refine s_run rfl rfl (r_mv (v := .slice _ _ _) rfl) ?_
        refine s_run rfl rfl (r_len rfl Try.underlying25) ?_
        refine s_run rfl rfl (r_lssT rfl rfl (by omega)) ?_
        refine s_run rfl rfl (r_mv (v := .bool _) rfl) ?_
        refine s_run rfl (g_on 20 (by kernel_rfl) rfl) (r_mv (v := .slice _ _ _) rfl) ?_
        refine s_run rfl (g_on 20 (by kernel_rfl) rfl) (r_mv (v := .int _ _) rfl) ?_
        refine s_run rfl (g_on 20 (by kernel_rfl) rfl) (r_ix1o rfl rfl rfl (by omega) Try.underlying25 sz22) ?_
        refine s_run rfl (g_on 20 (by kernel_rfl) rfl) (r_lr H (i := o + (i + k)) rfl hc (by simp) ag22) ?_
        refine s_run rfl (g_on 20 (by kernel_rfl) rfl) (r_eqlT rfl rfl (by omega)) ?_
        refine s_run rfl rfl (r_pkT (v := .bool _) rfl rfl) ?_
        refine k_nil ?_
        refine c_norm ?_
        refine k_t rfl ?_
        refine k_skip ?_
        refine c_norm ?_
        refine k_b ?_
        refine k_rg ?_
        refine s_run rfl rfl (r_mv (v := .int _ _) rfl) ?_
        refine s_run rfl rfl (r_add rfl rfl (wI (by omega))) ?_
        refine s_run rfl rfl (r_as (v := .int _ _) rfl) ?_
        refine k_nil ?_
        refine b_norm ?_
        refine c_round ?_
        refine ⟨_, _, ?_, rfl, k + 1, by omega, rfl, rfl, rfl, rfl, ?_, H⟩
        · omega
        · exact congrArg (Value.int .i64) (by omega)
      · obtain rfl : k = Z := by omega
        by_cases hend : i + k < n
        · obtain ⟨z, hc, hz0⟩ := hg2 hend
          refine k_seq ?_
          refine k_seq ?_
          refine k_rg ?_
          refine s_run rfl rfl (r_mv (v := .int _ _) rfl) ?_
          refine s_run rfl rfl (r_mv (v := .slice _ _ _) rfl) ?_
          refine s_run rfl rfl (r_len rfl Try.underlying25) ?_
          refine s_run rfl rfl (r_lssT rfl rfl (by omega)) ?_
          refine s_run rfl rfl (r_mv (v := .bool _) rfl) ?_
          refine s_run rfl (g_on 20 (by kernel_rfl) rfl) (r_mv (v := .slice _ _ _) rfl) ?_
          refine s_run rfl (g_on 20 (by kernel_rfl) rfl) (r_mv (v := .int _ _) rfl) ?_
          refine s_run rfl (g_on 20 (by kernel_rfl) rfl) (r_ix1o rfl rfl rfl (by omega) Try.underlying25 sz22) ?_
          refine s_run rfl (g_on 20 (by kernel_rfl) rfl) (r_lr H (i := o + (i + k)) rfl hc (by simp) ag22) ?_
          refine s_run rfl (g_on 20 (by kernel_rfl) rfl) (r_eqlF rfl rfl (by omega)) ?_
          refine s_run rfl rfl (r_pkT (v := .bool _) rfl rfl) ?_
          refine k_nil ?_
          refine c_norm ?_
          refine k_f rfl ?_
          refine k_exit ?_
          refine c_exit ?_
          refine c_exit ?_
          refine b_hit ?_
          refine k_met ?_
          exact ⟨rfl, rfl, rfl, rfl, H⟩
        · refine k_seq ?_
          refine k_seq ?_
          refine k_rg ?_
          refine s_run rfl rfl (r_mv (v := .int _ _) rfl) ?_
          refine s_run rfl rfl (r_mv (v := .slice _ _ _) rfl) ?_
          refine s_run rfl rfl (r_len rfl Try.underlying25) ?_
          refine s_run rfl rfl (r_lssF rfl rfl (by omega)) ?_
          refine s_run rfl rfl (r_mv (v := .bool _) rfl) ?_
          refine s_off rfl (g_off 20 (by kernel_rfl) rfl rfl) ?_
          refine s_off rfl (g_off 20 (by kernel_rfl) rfl rfl) ?_
          refine s_off rfl (g_off 20 (by kernel_rfl) rfl rfl) ?_
          refine s_off rfl (g_off 20 (by kernel_rfl) rfl rfl) ?_
          refine s_off rfl (g_off 20 (by kernel_rfl) rfl rfl) ?_
          refine s_run rfl rfl (r_pkF (v := .bool _) rfl rfl) ?_
          refine k_nil ?_
          refine c_norm ?_
          refine k_f rfl ?_
          refine k_exit ?_
          refine c_exit ?_
          refine c_exit ?_
          refine b_hit ?_
          refine k_met ?_
          exact ⟨rfl, rfl, rfl, rfl, H⟩
    · clear H
      rintro f W ⟨f0, f3, f4, f5, H⟩
      obtain ⟨f, rfl⟩ := live4 f0 f3 f4 f5
      clear f0 f3 f4 f5
      refine c_norm ?_
      refine k_seq ?_
      refine k_rg ?_
      refine s_run rfl rfl (r_mv (v := .int _ _) rfl) ?_
      refine s_run rfl rfl (r_as (v := .int _ _) rfl) ?_
      refine k_nil ?_
      refine c_norm ?_
      refine k_seq ?_
      refine k_cut (fun f W => f 0 = .slice (some ⟨b, o, none⟩) n c ∧ f 3 = .slice A2 q c2 ∧ f 4 = .int .i64 i ∧ f 5 = .int .i64 ((i + Z : Nat) : Int) ∧ f 6 = .int .i64 ((i + Z + Im.nr R : Nat) : Int) ∧ Heap w [] [ownN 1 (.slice A2 q c2) q (l.map (Value.int .u64)) 22] W) ?_ ?_
      · refine k_b ?_
        refine k_loop (fun z f W => ∃ k : Nat, k ≤ Im.nr R ∧ z = n - k ∧ f 0 = .slice (some ⟨b, o, none⟩) n c ∧ f 3 = .slice A2 q c2 ∧ f 4 = .int .i64 i ∧ f 5 = .int .i64 ((i + Z : Nat) : Int) ∧ f 6 = .int .i64 ((i + Z + k : Nat) : Int) ∧ Heap w [] [ownN 1 (.slice A2 q c2) q (l.map (Value.int .u64)) 22] W) n ⟨0, by omega, rfl, rfl, rfl, rfl, rfl, rfl, H⟩ ?_
        clear H
        rintro z f W ⟨k, hk, rfl, f0, f3, f4, f5, f6, H⟩
        obtain ⟨f, rfl⟩ := live5 f0 f3 f4 f5 f6
        clear f0 f3 f4 f5 f6
        by_cases hlt2 : k < Im.nr R
        · obtain ⟨z, hzR, hc, hz0⟩ := hg3 k hlt2
          refine k_seq ?_
          refine k_seq ?_
          refine k_rg ?_
          refine s_run rfl rfl (r_mv (v := .int _ _) rfl) ?_
          refine s_run rfl rfl (r_mv (v := .slice _ _ _) rfl) ?_
          refine s_run rfl rfl (r_len rfl Try.underlying25) ?_
          refine s_run rfl rfl (r_lssT rfl rfl (by omega)) ?_
          refine s_run rfl rfl (r_mv (v := .bool _) rfl) ?_
          refine s_run rfl (g_on 34 (by kernel_rfl) rfl) (r_mv (v := .slice _ _ _) rfl) ?_
          refine s_run rfl (g_on 34 (by kernel_rfl) rfl) (r_mv (v := .int _ _) rfl) ?_
          refine s_run rfl (g_on 34 (by kernel_rfl) rfl) (r_ix1o rfl rfl rfl (by omega) Try.underlying25 sz22) ?_
          refine s_run rfl (g_on 34 (by kernel_rfl) rfl) (r_lr H (i := o + (i + Z + k)) rfl hc (by simp) ag22) ?_
          refine s_run rfl (g_on 34 (by kernel_rfl) rfl) (r_neqT rfl rfl (by omega)) ?_
          refine s_run rfl rfl (r_pkT (v := .bool _) rfl rfl) ?_
          refine k_nil ?_
          refine c_norm ?_
          refine k_t rfl ?_
          refine k_skip ?_
          refine c_norm ?_
          refine k_b ?_
          refine k_rg ?_
          refine s_run rfl rfl (r_mv (v := .int _ _) rfl) ?_
          refine s_run rfl rfl (r_add rfl rfl (wI (by omega))) ?_
          refine s_run rfl rfl (r_as (v := .int _ _) rfl) ?_
          refine k_nil ?_
          refine b_norm ?_
          refine c_round ?_
          refine ⟨_, _, ?_, rfl, k + 1, by omega, rfl, rfl, rfl, rfl, rfl, ?_, H⟩
          · omega
          · exact congrArg (Value.int .i64) (by omega)
        · obtain rfl : k = Im.nr R := by omega
          by_cases hend : i + Z + Im.nr R < n
          · have hc := hg4 hend
            refine k_seq ?_
            refine k_seq ?_
            refine k_rg ?_
            refine s_run rfl rfl (r_mv (v := .int _ _) rfl) ?_
            refine s_run rfl rfl (r_mv (v := .slice _ _ _) rfl) ?_
            refine s_run rfl rfl (r_len rfl Try.underlying25) ?_
            refine s_run rfl rfl (r_lssT rfl rfl (by omega)) ?_
            refine s_run rfl rfl (r_mv (v := .bool _) rfl) ?_
            refine s_run rfl (g_on 34 (by kernel_rfl) rfl) (r_mv (v := .slice _ _ _) rfl) ?_
            refine s_run rfl (g_on 34 (by kernel_rfl) rfl) (r_mv (v := .int _ _) rfl) ?_
            refine s_run rfl (g_on 34 (by kernel_rfl) rfl) (r_ix1o rfl rfl rfl (by omega) Try.underlying25 sz22) ?_
            refine s_run rfl (g_on 34 (by kernel_rfl) rfl) (r_lr H (i := o + (i + Z + Im.nr R)) rfl hc (by simp) ag22) ?_
            refine s_run rfl (g_on 34 (by kernel_rfl) rfl) (r_neqF rfl rfl (by omega)) ?_
            refine s_run rfl rfl (r_pkT (v := .bool _) rfl rfl) ?_
            refine k_nil ?_
            refine c_norm ?_
            refine k_f rfl ?_
            refine k_exit ?_
            refine c_exit ?_
            refine c_exit ?_
            refine b_hit ?_
            refine k_met ?_
            exact ⟨rfl, rfl, rfl, rfl, rfl, H⟩
          · refine k_seq ?_
            refine k_seq ?_
            refine k_rg ?_
            refine s_run rfl rfl (r_mv (v := .int _ _) rfl) ?_
            refine s_run rfl rfl (r_mv (v := .slice _ _ _) rfl) ?_
            refine s_run rfl rfl (r_len rfl Try.underlying25) ?_
            refine s_run rfl rfl (r_lssF rfl rfl (by omega)) ?_
            refine s_run rfl rfl (r_mv (v := .bool _) rfl) ?_
            refine s_off rfl (g_off 34 (by kernel_rfl) rfl rfl) ?_
            refine s_off rfl (g_off 34 (by kernel_rfl) rfl rfl) ?_
            refine s_off rfl (g_off 34 (by kernel_rfl) rfl rfl) ?_
            refine s_off rfl (g_off 34 (by kernel_rfl) rfl rfl) ?_
            refine s_off rfl (g_off 34 (by kernel_rfl) rfl rfl) ?_
            refine s_run rfl rfl (r_pkF (v := .bool _) rfl rfl) ?_
            refine k_nil ?_
            refine c_norm ?_
            refine k_f rfl ?_
            refine k_exit ?_
            refine c_exit ?_
            refine c_exit ?_
            refine b_hit ?_
            refine k_met ?_
            exact ⟨rfl, rfl, rfl, rfl, rfl, H⟩
      · clear H
        rintro f W ⟨f0, f3, f4, f5, f6, H⟩
        obtain ⟨f, rfl⟩ := live5 f0 f3 f4 f5 f6
        clear f0 f3 f4 f5 f6
        have hsee := fun W (hO : Only [] w W) => sees_cut (hr.later hO (by simp)) hl hnc.1 (i + Z) (i + Z + Im.nr R - (i + Z)) (by omega)
        have hcut : (ws.drop (i + Z)).take (i + Z + Im.nr R - (i + Z)) = R.take (Im.nr R) := by rw [← hR]; congr 1; omega
        simp only [hcut] at hsee
        refine c_norm ?_
        refine k_seq ?_
        refine k_rg ?_
        refine s_run rfl rfl (r_mv (v := .slice _ _ _) rfl) ?_
        refine s_run rfl rfl (r_mv (v := .int _ _) rfl) ?_
        refine s_run rfl rfl (r_mv (v := .int _ _) rfl) ?_
        refine s_run rfl rfl (r_sub rfl rfl (wI (by omega))) ?_
        refine s_run rfl rfl (r_cv rfl (by kernel_rfl) Try.underlying22 (wU (by omega))) ?_
        refine s_run rfl rfl (r_mv (v := .int _ _) rfl) ?_
        refine s_run rfl rfl (r_mv (v := .int _ _) rfl) ?_
        refine s_run rfl rfl (r_sub rfl rfl (wI (by omega))) ?_
        refine s_run rfl rfl (r_cv rfl (by kernel_rfl) Try.underlying22 (wU (by omega))) ?_
        refine s_appL (enc := (Value.int .u64)) (zs := [((i + Z : Nat) : Int) - (i : Int), ((i + Z + Im.nr R : Nat) : Int) - ((i + Z : Nat) : Int)]) H 0 rfl rfl rfl rfl (by omega) (by kernel_rfl) (fun _ => rfl) (fun _ => rfl) (fun _ => rfl) rfl (by omega) Try.underlying25 inf22 rfl ?_
        intro _ An cn _ H'; simp only [List.set_cons_zero, List.set_cons_succ, List.take_succ_cons, List.take_zero, List.drop_succ_cons, List.drop_zero, List.cons_append, List.nil_append, List.append_nil, List.length_cons, List.length_nil, Nat.reduceAdd] at H'; clear H; have H := H'; clear H'
        refine s_run rfl rfl (r_as (v := .slice _ _ _) rfl) ?_
        refine k_nil ?_
        refine c_norm ?_
        refine k_seq ?_
        refine k_rg ?_
        refine s_run rfl rfl (r_mv (v := .slice _ _ _) rfl) ?_
        refine s_run rfl rfl (r_mv (v := .slice _ _ _) rfl) ?_
        refine s_run rfl rfl (r_mv (v := .int _ _) rfl) ?_
        refine s_run rfl rfl (r_mv (v := .int _ _) rfl) ?_
        refine s_run rfl rfl (r_sl (i := i + Z) (j := i + Z + Im.nr R) rfl rfl rfl (by omega) (by omega) (by omega) Try.underlying25 sz22) ?_
        refine s_apW (enc := (Value.int .u64)) H 0 rfl rfl rfl rfl (hsee _ H.only) (by rw [hLl]; omega) (fun _ => rfl) (by omega) Try.underlying25 inf22 rfl ?_
        intro _ _ _ H'; simp only [List.set_cons_zero, List.set_cons_succ, List.take_succ_cons, List.take_zero, List.drop_succ_cons, List.drop_zero, List.cons_append, List.nil_append, List.append_nil, List.length_cons, List.length_nil, Nat.reduceAdd] at H'; clear H; have H := H'; clear H'
        refine s_run rfl rfl (r_as (v := .slice _ _ _) rfl) ?_
        refine k_nil ?_
        refine c_norm ?_
        refine k_rg ?_
        refine s_run rfl rfl (r_mv (v := .int _ _) rfl) ?_
        refine s_run rfl rfl (r_as (v := .int _ _) rfl) ?_
        refine k_nil ?_
        refine b_norm ?_
        refine c_round ?_
        refine ⟨_, _, ?_, rfl, i + Z + Im.nr R, _, _, _, _, by omega, rfl, ?_, ?_, rfl, rfl, rfl, H⟩
        · omega
        · rw [← hb, hbody, show ((i + Z : Nat) : Int) - (i : Int) = Z by omega, show ((i + Z + Im.nr R : Nat) : Int) - ((i + Z : Nat) : Int) = Im.nr R by omega]
          simp only [List.append_assoc, List.cons_append, List.nil_append]
        · simp [hq, hLl]; omega
  · obtain rfl : i = n := by omega
    rw [List.drop_eq_nil_of_le (by omega), Im.body_nil, List.append_nil] at hb
    have hsum := Im.sum_bd (Im.head ws)
    subst hb
    have hql : (Im.head ws ++ [Im.sum (Im.head ws)]).length = q + 1 := by rw [hq]; simp
    refine k_seq ?_
    refine k_seq ?_
    refine k_rg ?_
    refine s_run rfl rfl (r_mv (v := .int _ _) rfl) ?_
    refine s_run rfl rfl (r_mv (v := .slice _ _ _) rfl) ?_
    refine s_run rfl rfl (r_len rfl Try.underlying25) ?_
    refine s_run rfl rfl (r_lssF rfl rfl (by omega)) ?_
    refine k_nil ?_
    refine c_norm ?_
    refine k_f rfl ?_
    refine k_exit ?_
    refine c_exit ?_
    refine c_exit ?_
    refine b_hit ?_
    refine c_norm ?_
    refine k_seq ?_
    refine k_rg ?_
    refine s_run rfl rfl (r_mv (v := .slice _ _ _) rfl) ?_
    refine s_run rfl rfl (r_mv (v := .slice _ _ _) rfl) ?_
    refine s_call rfl (rcWords A2 q c2 (Im.head ws) _ (H.own_sees 0 rfl) hq.symm hhU (by omega)) (ca66 rfl) ?_
    rintro e W1 ⟨rfl, H'⟩
    refine ⟨_, rfl, ?_⟩
    have H := H.same H'; clear H'
    refine s_run rfl rfl (r_cv rfl (by kernel_rfl) Try.underlying22 (wU (by omega))) ?_
    refine s_app1 (enc := (Value.int .u64)) H 0 rfl rfl rfl rfl rfl rfl rfl (by omega) Try.underlying25 inf22 rfl ?_
    intro _ An cn _ H'; simp only [List.set_cons_zero, List.set_cons_succ, List.take_succ_cons, List.take_zero, List.drop_succ_cons, List.drop_zero, List.cons_append, List.nil_append, List.append_nil, List.length_cons, List.length_nil, Nat.reduceAdd] at H'; clear H; have H := H'; clear H'
    refine s_run rfl rfl (r_as (v := .slice _ _ _) rfl) ?_
    refine k_nil ?_
    refine c_norm ?_
    refine k_seq ?_
    refine k_rg ?_
    refine s_run rfl rfl (r_mv (v := .slice _ _ _) rfl) ?_
    refine s_call rfl (rcBytes _ _ _ (Im.out ws) _ (H.own_sees 0 rfl) hql hoU (by omega)) (ca87 rfl) ?_
    rintro e W1 ⟨Ab, cb, rfl, H'⟩
    refine ⟨_, rfl, ?_⟩
    have H := H.more (A := [_]) H'; clear H'
    refine s_run rfl rfl (r_as (v := .slice _ _ _) rfl) ?_
    refine k_nil ?_
    refine c_norm ?_
    refine k_ret ?_
    refine fin1r (v := .slice _ _ _) rfl rfl ?_
    exact ⟨_, _, rfl, H.drops⟩
end Go.Proofs.Ytmekhdclnhhhbaa
end

section
namespace Go.Proofs.Ytmekhdclnhhhbaa
set_option linter.unusedSimpArgs false
set_option linter.unusedVariables false
open Go.RowKit
theorem lv7 {f : Nat → Value} {k1 k2 k3 k4 k5 k6 k7 : Nat} {v1 v2 v3 v4 v5 v6 v7 : Value} (h1 : f k1 = v1) (h2 : f k2 = v2) (h3 : f k3 = v3) (h4 : f k4 = v4) (h5 : f k5 = v5) (h6 : f k6 = v6) (h7 : f k7 = v7) : ∃ g, f = upd (upd (upd (upd (upd (upd (upd g k1 v1) k2 v2) k3 v3) k4 v4) k5 v5) k6 v6) k7 v7 := ⟨f, by rw [upd_same h1, upd_same h2, upd_same h3, upd_same h4, upd_same h5, upd_same h6, upd_same h7]⟩
theorem zeroCells_one (z : Value) (n : Nat) (h1 : z.cells = #[z]) : Builtin.zeroCells z.cells n = (List.replicate n z).toArray := by
  unfold Builtin.zeroCells
  rw [h1]
  apply Array.toList_inj.1
  apply List.ext_getElem?
  intro i
  simp only [Array.toList_map, Array.toList_range, List.getElem?_map, List.getElem?_range', List.getElem?_replicate]
  by_cases hi : i < n
  · have : i < n * #[z].size := by simpa using hi
    rw [List.getElem?_range this]
    simp [hi, Nat.mod_one]
  · rw [List.getElem?_eq_none (by simp; omega)]
    simp [hi]
section
variable {P : Program} {W : World}
theorem appz_run (t tn ty e : TypeId) {z : Value} {bytes : Nat} {kn k : IntKind} (ht : P.underlying t = some (.slice e)) (htn : P.underlying tn = some (.int kn)) (hi : Inf P e z 1 bytes) (hz1 : z.oneCell' = true)
    (v : Value) (n : Nat) (xs : List Value) (hown : W.ownsRow 0 e 1 v n xs) (m : Nat) (h63 : n + m ≤ 100000000000) (hbytes : (n + m) * bytes ≤ 140737488355328) :
    ∃ v' W', (Builtin.append_ #[t, tn] ty #[v, .int k m]).run P W = .ok v' W' ∧ W'.ownsRow 0 e 1 v' (n + m) (xs ++ List.replicate m z) ∧ W.grownBy W' v.ownBlock ∧ (∀ k, v'.ownBlock = some k → v.ownBlock = some k ∨ W.heap.size ≤ k) := by
  obtain ⟨i, hi0, hz, hsz, hb⟩ := hi.ex
  subst hb
  have hzc := one_cells hz1
  have hzz := zeroCells_one z m hzc
  have hw : IntKind.i64.wrap (m : Int) = m := by rw [IntKind.wrap_i64]; omega
  have hneg : ¬ ((m : Int) < 0) := by omega
  have hmb : m * i.bytes ≤ 140737488355328 := Nat.le_trans (Nat.mul_le_mul_right _ (by omega)) hbytes
  have h48i : ¬ (281474976710656 < (m : Int) * (i.bytes : Int)) := by
    rw [← Int.natCast_mul]; omega
  have hmx : n + m ≤ maxLen := by unfold maxLen; omega
  have hlen : (xs ++ List.replicate m z).length = (n + m) * 1 := by rw [List.length_append, hown.1, List.length_replicate]; omega
  have hgrown : ∀ (old : Nat), old < n + m → ∀ (row : Option Nat),
      (W.drew.alloc (.cells (xs.toArray ++ (List.replicate m z).toArray ++ Builtin.zeroCells z.cells (grownCap W (n + m) old e - (n + m))) e)).ownsRow 0 e 1
        (.slice (some ⟨W.heap.size, 0, none⟩) (n + m) (grownCap W (n + m) old e)) (n + m) (xs ++ List.replicate m z) ∧
      W.grownBy (W.drew.alloc (.cells (xs.toArray ++ (List.replicate m z).toArray ++ Builtin.zeroCells z.cells (grownCap W (n + m) old e - (n + m))) e)) row := by
    intro old ho row
    have hge := grownCap_ge W (n + m) old e
    have hcm : grownCap W (n + m) old e ≤ maxLen := grownCap_le_maxLen W (n + m) old e hmx
    refine ⟨⟨hlen, .inr ⟨W.heap.size, _, _, rfl, Nat.zero_le _, heap_alloc_new W.drew _, hge, hcm, ?_, ?_⟩⟩, ⟨rfl, rfl, rfl, by simp, fun k hk _ => Go.heap_alloc_old W.drew _ hk⟩⟩
    · have hx := hown.1
      have hz0 : z.cells.size = 1 := by rw [hzc]; rfl
      simp only [Array.size_append, List.size_toArray, size_zeroCells, hz0, hx, List.length_replicate]
      omega
    · simp only [Array.toList_append, List.append_assoc]
      rw [← List.append_assoc, ← hlen]
      exact List.take_left
  rcases hown.2 with ⟨rfl, rfl⟩ | ⟨g, cap, cur, rfl, hbg, hg, hnc, hcm, hcs, htake⟩
  · have hx : xs = [] := List.eq_nil_of_length_eq_zero (by simpa using hown.1)
    subst hx
    by_cases hm : m = 0
    · subst hm
      refine ⟨.slice none 0 0, W, ?_, World.ownsRow_nil W 0 e 1, ⟨rfl, rfl, rfl, Nat.le_refl _, fun _ _ _ => rfl⟩, fun k hk => by cases hk⟩
      have hw0 : IntKind.i64.wrap 0 = 0 := rfl
      simp [Builtin.append_, run_underlying ht, run_underlying htn, Go.sizeOf, typeInfo, hi0, asInt, asIntOf, hsz, hw0]
    · have hr := Lib.run_append_nil_zeros (P := P) W t tn ty e i z k kn ht htn hi0 hz m (by omega) (by omega) (by omega) (by omega)
      have hgr := hgrown 0 (by omega) (Value.ownBlock (.slice none 0 0))
      rw [hzz] at hr
      simp only [Nat.zero_add, List.nil_append, Array.empty_append] at hgr ⊢
      refine ⟨_, _, hr, ?_, hgr.2, fun k hk => .inr ?_⟩
      · have := hgr.1; simpa using this
      · simp [Value.ownBlock] at hk; omega
  · by_cases hroom : n + m ≤ cap
    · have hst := run_storeCells_at P g (n * 1) e (List.replicate m z) 0 cur W hg (by simp; omega) (by intro u hu; rw [(List.mem_replicate.1 hu).2]; exact hz1)
      simp only [Nat.add_zero] at hst
      have hr : (Builtin.append_ #[t, tn] ty #[.slice (some ⟨g, 0, none⟩) n cap, .int k m]).run P W = .ok (.slice (some ⟨g, 0, none⟩) (n + m) cap) (W.setRow g (cur.toList.take (n * 1) ++ List.replicate m z ++ cur.toList.drop (n * 1 + (List.replicate m z).length)).toArray) := by
        by_cases h0 : m = 0
        · subst h0
          have hw0 : IntKind.i64.wrap 0 = 0 := rfl
          have hroom2 : n ≤ cap := by omega
          simp at hst
          simp [Builtin.append_, run_underlying ht, run_underlying htn, Go.sizeOf, typeInfo, hi0, asInt, asIntOf, hsz, hw0, hroom2, Addr.add_lit, hst]
        · simp only [Nat.mul_one, List.length_replicate, List.append_assoc] at hst
          simp [Builtin.append_, run_underlying ht, run_underlying htn, Go.sizeOf, typeInfo, zeroValue, hi0, hz, asInt, asIntOf, hsz, hw, hneg, h48i, hroom, h0, hzz, Addr.add_lit, hst]
      refine ⟨_, _, hr, ⟨hlen, .inr ⟨g, cap, _, rfl, hbg, setRow_heap W g cur _ e _ hg, hroom, hcm, ?_, ?_⟩⟩, ⟨rfl, rfl, rfl, by simp, fun k _ hk => setRow_other W g k _ (fun e => hk (by simp [Value.ownBlock, e]))⟩, fun k hk => .inl hk⟩
      · simp only [List.size_toArray, List.length_append, List.length_take, List.length_drop, Array.length_toList, List.length_replicate]
        omega
      · rw [htake, ← hlen]
        exact List.take_left
    · have hr : (Builtin.append_ #[t, tn] ty #[.slice (some ⟨g, 0, none⟩) n cap, .int k m]).run P W = .ok (.slice (some ⟨W.heap.size, 0, none⟩) (n + m) (grownCap W (n + m) cap e)) (W.drew.alloc (.cells (xs.toArray ++ (List.replicate m z).toArray ++ Builtin.zeroCells z.cells (grownCap W (n + m) cap e - (n + m))) e)) := by
        have h0 : m ≠ 0 := by omega
        have hn : ¬ (n + m ≤ cap) := hroom
        have h63' : ¬ (9223372036854775807 < ((n : Int) + (m : Int))) := by omega
        have hfit := growslice_fits (need := n + m) (old := cap) (bytes := i.bytes) (by omega) hbytes
        have h48' : ¬ (281474976710656 < Builtin.nextslicecap (n + m) cap * i.bytes) := by omega
        have holds : ∀ j u, xs[j]? = some u → W.cell? ((⟨g, 0, none⟩ : Addr).add j) = some u := hown.cells (g := g) rfl
        have hfo := run_firstCells_some (P := P) W.drew 1 n ⟨g, 0, none⟩ n cap xs hown.1 (by simpa using holds)
        simp [Builtin.append_, run_underlying ht, run_underlying htn, Go.sizeOf, typeInfo, zeroValue, hi0, hz, asInt, asIntOf, hsz, hw, hneg, h48i, hn, h0, h63', h48', Question.forced, hfo, hzz, newRow, grownCap]
      have hgr := hgrown cap (by omega) (Value.ownBlock (.slice (some ⟨g, 0, none⟩) n cap))
      exact ⟨_, _, hr, hgr.1, hgr.2, fun k hk => .inr (by simp [Value.ownBlock] at hk; omega)⟩
end
section
variable {P : Program} {n : Nat} {f : Nat → Value} {W w0 : World} {dst : Option Tmp} {ty : TypeId} {pos : String} {af : Array Edge} {g : Option (Nat × Bool)} {x y : Operand} {t t2 e : TypeId} {v : Value} {k k2 : IntKind} {a b : Int}
/-- s[lo:] -/
theorem r_slo {p o l c : Nat} {lo : Operand} {i m : Nat} (hx : ev n f x = .slice (some ⟨p, o, none⟩) l c) (hl : ev n f lo = .int k a) (ha : a = (i : Int)) (hi : i ≤ l) (h : P.underlying t = some (.slice e)) (hm : ∀ W, (Go.sizeOf e).run P W = .ok m W) :
    (execOp (ev n f) ⟨dst, .slice t x (some lo) none none, ty, pos, af, g⟩).run P W = .ok (.value (.slice (some (if c = i then ⟨p, o, none⟩ else ⟨p, o + i * m, none⟩)) (l - i) (c - i))) W := by
  subst ha
  have h1 : (0 : Int) ≤ i ∧ (i : Int) ≤ l := by omega
  simp only [execOp, Instr.sliceAt, Instr.slice, Instr.sliceBounds, Instr.sliceBound, hx, hl, asIntOf, Option.map_some, Option.map_none, Sem.run_bind, run_underlying h, Result.andThen_ok, Sem.run_pure, h1, and_self, if_true, hm, Int.toNat_natCast, add_plain]
  split <;> rfl
/-- s[:hi] -/
theorem r_shi {p o l c : Nat} {hi : Operand} {j m : Nat} (hx : ev n f x = .slice (some ⟨p, o, none⟩) l c) (hh : ev n f hi = .int k a) (ha : a = (j : Int)) (hj : j ≤ c) (h : P.underlying t = some (.slice e)) (hm : ∀ W, (Go.sizeOf e).run P W = .ok m W) :
    (execOp (ev n f) ⟨dst, .slice t x none (some hi) none, ty, pos, af, g⟩).run P W = .ok (.value (.slice (some ⟨p, o, none⟩) j c)) W := by
  subst ha
  have h1 : (0 : Int) ≤ j ∧ (j : Int) ≤ c := by omega
  simp only [execOp, Instr.sliceAt, Instr.slice, Instr.sliceBounds, Instr.sliceBound, hx, hh, asIntOf, Option.map_some, Option.map_none, Sem.run_bind, run_underlying h, Result.andThen_ok, Sem.run_pure, h1, and_self, if_true, hm, Int.toNat_natCast, add_plain]
  split <;> simp
end
section
variable {P : Program} {ops : Array Oper} {rest : List Oper} {n k k2 : Nat} {f : Nat → Value} {W w0 : World} {F : List Nat} {L : List Ent} {Q : Exit → Act → World → Prop} {ty ty2 : TypeId} {pos pos2 : String} {af af2 : Array Edge} {g : Option (Nat × Bool)} {x y s : Operand} {v u : Value} {t tn e : TypeId}
/-- append(s, make([]T, m)...) -/
theorem s_apz {α : Type} {enc : α → Value} {z : α} {bytes m l : Nat} {xs : List α} {kn q : IntKind} {a : Int} (H : Heap w0 F L W) (j : Nat) (hj : L[j]? = some (ownN 1 v m (xs.map enc) e))
    (hw : Region.wanted ⟨some k, .call ⟨.builtin .append, #[s, y], #[t, tn]⟩, ty, pos, af, g⟩ (yl n f ops) = true) (hs : ev n f s = v) (hy : ev n f y = .int q a) (ha : a = (l : Int))
    (hm : m + l ≤ 100000000000 ∧ (m + l) * bytes ≤ 140737488355328) (ht : P.underlying t = some (.slice e)) (htn : P.underlying tn = some (.int kn)) (hi : Inf P e (enc z) 1 bytes) (hz0 : (enc z).oneCell' = true)
    (h : ∀ A' c' W', Heap w0 F (L.set j (ownN 1 (.slice A' (m + l) c') (m + l) ((xs ++ List.replicate l z).map enc) e)) W' → SL P ops Q rest n (upd f k (.slice A' (m + l) c')) W') :
    SL P ops Q (⟨some k, .call ⟨.builtin .append, #[s, y], #[t, tn]⟩, ty, pos, af, g⟩ :: rest) n f W := by
  subst ha
  have hown := H.own_get j hj
  obtain ⟨v', W2, hr, o1, o2, o3⟩ := appz_run (P := P) (W := W) t tn ty e (k := q) ht htn hi hz0 v m (xs.map enc) hown l hm.1 hm.2
  have H3 := H.app j hj (m := l) o1 o2 o3
  rw [← List.map_replicate, ← List.map_append] at H3
  obtain ⟨A', c', rfl⟩ : ∃ A' c', v' = .slice A' (m + l) c' := by
    rcases o1.2 with ⟨rfl, h0⟩ | ⟨q, cap, cur, rfl, _⟩
    · exact ⟨none, 0, by rw [h0]⟩
    · exact ⟨_, _, rfl⟩
  exact s_run rfl hw (W' := W2) (v := .slice A' (m + l) c') (by simp only [execOp, resolve, invoke, builtin, List.map_toArray, List.map_cons, List.map_nil, hs, hy, Sem.run_bind, Sem.run_pure, Result.andThen_ok, hr]) (h A' c' W2 H3)
/-- make([]T, 0, m) -/
theorem s_mk0 {α : Type} (enc : α → Value) (z : α) {kl kc : IntKind} {a b : Int} (m : Nat) {bytes : Nat} (H : Heap w0 F L W) (hw : Region.wanted ⟨some k, .makeSlice t x y, ty, pos, af, g⟩ (yl n f ops) = true)
    (hx : ev n f x = .int kl a) (hy : ev n f y = .int kc b) (ha : a = 0) (hb : b = (m : Int)) (hm : m * bytes ≤ 140737488355328 ∧ m ≤ 100000000000) (ht : P.underlying t = some (.slice e)) (hi : Inf P e (enc z) 1 bytes) (h1 : (enc z).oneCell' = true)
    (h : ∀ p W', Heap w0 F (ownN 1 (.slice (some ⟨p, 0, none⟩) 0 m) 0 (([] : List α).map enc) e :: L) W' → SL P ops Q rest n (upd f k (.slice (some ⟨p, 0, none⟩) 0 m)) W') : SL P ops Q (⟨some k, .makeSlice t x y, ty, pos, af, g⟩ :: rest) n f W := by
  subst ha; subst hb
  obtain ⟨i, hi, hz, hs, hby⟩ := hi.ex
  have hb' : (i.bytes : Int) * (m : Int) ≤ 281474976710656 := by
    have h2 : ((i.bytes * m : Nat) : Int) ≤ 281474976710656 := by rw [hby, Nat.mul_comm]; omega
    rwa [Int.natCast_mul] at h2
  have hr := run_make (P := P) W t e i (enc z) ht hi hz kl kc 0 m (by omega) (by omega) hb' (by omega)
  simp only [Int.toNat_natCast, hs, Nat.mul_one, madeCells_one _ _ (one_cells h1), Int.toNat_zero] at hr
  refine s_run rfl hw (W' := W.alloc (.cells (List.replicate m (enc z)).toArray e)) (by simp only [execOp, hx, hy, Sem.run_bind, hr, Result.andThen_ok]; rfl) (h W.heap.size _ ?_)
  refine H.more (A := [ownN 1 (.slice (some ⟨W.heap.size, 0, none⟩) 0 m) 0 [] e]) ⟨?_, by simp [ids, ownN, Value.ownBlock], by simp [ids, ownN, Value.ownBlock], Only.of_below ((Below.refl _ _).alloc (Nat.le_refl _) _) _⟩
  intro E hE; rw [List.mem_singleton.1 hE]
  exact World.ownsRow_made W _ m (Nat.zero_le _) (by unfold maxLen; omega) (by simp)
end
end Go.Proofs.Ytmekhdclnhhhbaa
end

section
namespace Go.Proofs.Ytmekhdclnhhhbaa
open Go.RowKit
set_option linter.unusedSimpArgs false
set_option linter.unusedVariables false
theorem reads_drop {α : Type} {enc : α → Value} {W : World} {b o c : Nat} {ws : List α} (hr : Reads enc W b o ws) (i : Nat) (hc : ws.length ≤ c) (hi : i ≤ ws.length) :
    ∃ o2, (if c = i then (⟨b, o, none⟩ : Addr) else ⟨b, o + i * 1, none⟩) = ⟨b, o2, none⟩ ∧ Reads enc W b o2 (ws.drop i) := by
  by_cases h : c = i
  · refine ⟨o, by rw [if_pos h], ?_⟩
    rw [List.drop_eq_nil_of_le (by omega)]
    intro k z hk; simp at hk
  · refine ⟨o + i * 1, by rw [if_neg h], ?_⟩
    intro k z hk
    rw [List.getElem?_drop] at hk
    have := hr _ z hk
    rwa [← Nat.add_assoc, ← Nat.mul_one i] at this
section
variable {P : Program} {n : Nat} {f : Nat → Value} {W w0 : World} {dst : Option Tmp} {ty : TypeId} {pos : String} {af : Array Edge} {g : Option (Nat × Bool)} {x y : Operand} {t t2 e : TypeId} {v : Value} {k k2 : IntKind} {a b : Int}
theorem r_slo' {p o l c o2 l2 c2 : Nat} {lo : Operand} {i : Nat} (hx : ev n f x = .slice (some ⟨p, o, none⟩) l c) (hl : ev n f lo = .int k a) (ha : a = (i : Int)) (hi : i ≤ l) (ho : (if c = i then (⟨p, o, none⟩ : Addr) else ⟨p, o + i * 1, none⟩) = ⟨p, o2, none⟩) (hl2 : l - i = l2) (hc2 : c - i = c2) (h : P.underlying t = some (.slice e)) (hm : ∀ W, (Go.sizeOf e).run P W = .ok 1 W) :
    (execOp (ev n f) ⟨dst, .slice t x (some lo) none none, ty, pos, af, g⟩).run P W = .ok (.value (.slice (some ⟨p, o2, none⟩) l2 c2)) W := by
  rw [r_slo hx hl ha hi h hm, ho, hl2, hc2]
end
theorem read_cons (f zz mm : Nat) (t : List Int) (N : Int) (o : List Int) (h : (o.length : Int) < N) :
    Im.read (f + 1) ((zz : Int) :: (mm : Int) :: t) N o = if Im.bad zz mm (N - o.length) o.length = true then ([], 26) else if (mm : Int) > (t.length : Int) then ([], 31)
      else if Im.noZero (t.take mm) = true then Im.read f (t.drop mm) N (o ++ List.replicate zz 0 ++ t.take mm) else ([], 26) := by
  rw [Im.read, if_pos h, if_neg (by simp)]
  rfl
theorem read_short (f : Nat) (w : List Int) (N : Int) (o : List Int) (h : (o.length : Int) < N) (h2 : w.length < 2) : Im.read (f + 1) w N o = ([], 31) := by
  rw [Im.read, if_pos h, if_pos h2]
theorem read_end (f : Nat) (w : List Int) (N : Int) (o : List Int) (h : ¬ (o.length : Int) < N) : Im.read (f + 1) w N o = if w.length > 0 then ([], 32) else (o, 0) := by
  rw [Im.read, if_neg h]
theorem noZero_snoc (l : List Int) (k : Nat) (x : Int) (h : l[k]? = some x) (h0 : Im.noZero (l.take k) = true) (hx : x ≠ 0) : Im.noZero (l.take (k + 1)) = true := by
  rw [← take_snoc h]
  unfold Im.noZero at *
  rw [List.all_append, h0]
  simp [hx]
theorem noZero_no (l : List Int) (k m : Nat) (h : l[k]? = some 0) (hk : k < m) : ¬ Im.noZero (l.take m) = true := by
  intro h0
  unfold Im.noZero at h0
  rw [List.all_eq_true] at h0
  have : (l.take m)[k]? = some 0 := by rw [List.getElem?_take, if_pos hk]; exact h
  have := h0 0 (List.mem_of_getElem? this)
  simp at this
/-- what read gives -/
def RdPost (R : List Int × Int) (w : World) (e : Ending) (w' : World) : Prop :=
  ∃ A' c', e = .returned (.tuple #[.slice A' R.1.length c', .int .i64 R.2]) ∧ Heap w [] [ownN 1 (.slice A' R.1.length c') R.1.length (R.1.map (Value.int .u64)) 22] w'
theorem RdPost.err {w W : World} {L : List Ent} (H : Heap w [] L W) (code : Int) : RdPost ([], code) w (.returned (.tuple #[.slice none 0 0, .int .i64 code])) W :=
  ⟨none, 0, rfl, own0 H.clear _⟩
theorem iRead (b o c N : Nat) (wl : List Int) (w : World) (hr : Reads (Value.int .u64) w b o wl) (hc : wl.length ≤ c ∧ c ≤ 9223372036854775807) (hq : wl.length ≤ 1000000) (hU : Im.U wl) (hN : N ≤ 200000) :
    Calls Try.prog 83 [.slice (some ⟨b, o, none⟩) wl.length c, .int .i64 N].toArray w (RdPost (Im.read (N + 1) wl N []) w) := by
  have H := Heap.nil w
  generalize hR : Im.read (N + 1) wl N [] = R
  refine k_in (N := 98) Try.func83 rfl rfl rfl ?_
  refine k_seq ?_
  refine k_rg ?_
  refine s_run rfl rfl (r_as (v := .slice _ _ _) rfl) ?_
  refine s_run rfl rfl (r_as (v := .int _ _) rfl) ?_
  refine k_nil ?_
  refine c_norm ?_
  refine k_seq ?_
  refine k_rg ?_
  refine s_run rfl rfl (r_mv (v := .int _ _) rfl) ?_
  refine s_mk0 (Value.int .u64) 0 (m := N) H rfl rfl rfl (by omega) (by omega) (by omega) Try.underlying25 inf22 rfl ?_
  intro po _ H'; clear H; have H := H'; clear H'
  refine s_run rfl rfl (r_as (v := .slice _ _ _) rfl) ?_
  refine k_nil ?_
  refine c_norm ?_
  refine k_seq ?_
  refine k_b ?_
  refine k_loop (fun z f W => ∃ (wl' out : List Int) (o' c' : Nat) (A2 : Option Addr) (c2 : Nat), N < out.length + z ∧ out.length ≤ N ∧ Im.read z wl' N out = R ∧ f 0 = .slice (some ⟨b, o', none⟩) wl'.length c' ∧ wl'.length ≤ c' ∧ c' ≤ 9223372036854775807 ∧ wl'.length ≤ 1000000 ∧ Im.U wl' ∧ Reads (Value.int .u64) w b o' wl' ∧ f 1 = .int .i64 N ∧ f 6 = .slice A2 out.length c2 ∧ Heap w [] [ownN 1 (.slice A2 out.length c2) out.length (out.map (Value.int .u64)) 22] W) (N + 1) ⟨wl, [], o, c, some ⟨po, 0, none⟩, N, by simp, by simp, hR, rfl, hc.1, hc.2, hq, hU, hr, rfl, rfl, H⟩ ?_
  clear H hR hr hc hq hU
  rintro z f W ⟨wl, out, o, c, A2, c2, hz, hon, hR, f0, hc, hcm, hq, hU, hr, f1, f6, H⟩
  obtain ⟨f, rfl⟩ := live3 f0 f1 f6
  clear f0 f1 f6
  obtain ⟨fu, rfl⟩ : ∃ fu, z = fu + 1 := ⟨z - 1, by omega⟩
  by_cases hlt : out.length < N
  · by_cases h2 : wl.length < 2
    · rw [read_short fu wl N out (by omega) h2] at hR
      subst hR
      refine k_seq ?_
      refine k_seq ?_
      refine k_rg ?_
      refine s_run rfl rfl (r_mv (v := .slice _ _ _) rfl) ?_
      refine s_run rfl rfl (r_len rfl Try.underlying25) ?_
      refine s_run rfl rfl (r_mv (v := .int _ _) rfl) ?_
      refine s_run rfl rfl (r_lssT rfl rfl (by omega)) ?_
      refine k_nil ?_
      refine c_norm ?_
      refine k_t rfl ?_
      refine k_skip ?_
      refine c_norm ?_
      refine k_b ?_
      refine k_seq ?_
      refine k_seq ?_
      refine k_rg ?_
      refine s_run rfl rfl (r_mv (v := .slice _ _ _) rfl) ?_
      refine s_run rfl rfl (r_len rfl Try.underlying25) ?_
      refine s_run rfl rfl (r_lssT rfl rfl (by omega)) ?_
      refine k_nil ?_
      refine c_norm ?_
      refine k_t rfl ?_
      refine k_seq ?_
      refine k_rg ?_
      refine s_run rfl rfl (r_as (v := .slice _ _ _) rfl) ?_
      refine s_run rfl rfl (r_as (v := .int _ _) rfl) ?_
      refine k_nil ?_
      refine c_norm ?_
      refine k_ret ?_
      refine c_ret ?_
      refine b_ret ?_
      refine c_ret ?_
      refine b_ret ?_
      refine c_ret ?_
      refine fin2r (v := .slice _ _ _) (v2 := .int _ _) rfl rfl rfl ?_
      exact RdPost.err H _
    · obtain ⟨a, b', t, rfl⟩ : ∃ a b t, wl = a :: b :: t := by
        rcases wl with _ | ⟨a, _ | ⟨b, t⟩⟩
        · simp at h2
        · simp at h2
        · exact ⟨a, b, t, rfl⟩
      have ha := hU a (by simp)
      have hb := hU b' (by simp)
      obtain ⟨zz, rfl⟩ := Int.eq_ofNat_of_zero_le ha.1
      obtain ⟨mm, rfl⟩ := Int.eq_ofNat_of_zero_le hb.1
      rw [read_cons fu zz mm t N out (by omega)] at hR
      obtain ⟨o2, ho2, hr2⟩ := reads_drop (c := c) hr 2 hc (by simp)
      have hUt : Im.U t := fun x hx => hU x (by simp [hx])
      simp only [List.drop_succ_cons, List.drop_zero] at hr2
      simp only [List.length_cons] at hc hq h2 ⊢
      have hc0 := hr 0 _ rfl
      have hc1 := hr 1 _ rfl
      refine k_seq ?_
      refine k_seq ?_
      refine k_rg ?_
      refine s_run rfl rfl (r_mv (v := .slice _ _ _) rfl) ?_
      refine s_run rfl rfl (r_len rfl Try.underlying25) ?_
      refine s_run rfl rfl (r_mv (v := .int _ _) rfl) ?_
      refine s_run rfl rfl (r_lssT rfl rfl (by omega)) ?_
      refine k_nil ?_
      refine c_norm ?_
      refine k_t rfl ?_
      refine k_skip ?_
      refine c_norm ?_
      refine k_b ?_
      refine k_seq ?_
      refine k_seq ?_
      refine k_rg ?_
      refine s_run rfl rfl (r_mv (v := .slice _ _ _) rfl) ?_
      refine s_run rfl rfl (r_len rfl Try.underlying25) ?_
      refine s_run rfl rfl (r_lssF rfl rfl (by omega)) ?_
      refine k_nil ?_
      refine c_norm ?_
      refine k_f rfl ?_
      refine k_skip ?_
      refine c_norm ?_
      refine k_seq ?_
      refine k_q mixed (by kernel_rfl) H ?_
      refine q_run rfl rfl (fun _ H => r_mv (v := .slice _ _ _) rfl) ?_
      refine q_run rfl rfl (fun _ H => r_ix1o (i := 0) rfl rfl (by omega) (by omega) Try.underlying25 sz22) ?_
      refine q_run rfl rfl (fun _ H => r_lr H (i := o + 0) rfl hc0 (by simp) ag22) ?_
      refine q_run rfl rfl (fun _ H => r_mv (v := .slice _ _ _) rfl) ?_
      refine q_run rfl rfl (fun _ H => r_ix1o (i := 1) rfl rfl (by omega) (by omega) Try.underlying25 sz22) ?_
      refine q_run rfl rfl (fun _ H => r_lr H (i := o + 1) rfl hc1 (by simp) ag22) ?_
      refine q_run rfl rfl (fun _ H => r_as (v := .int _ _) rfl) ?_
      refine q_run rfl rfl (fun _ H => r_as (v := .int _ _) rfl) ?_
      refine q_nil ?_
      intro _ H'; clear H; have H := H'; clear H'
      refine c_norm ?_
      refine k_seq ?_
      refine k_rg ?_
      refine s_run rfl rfl (r_mv (v := .slice _ _ _) rfl) ?_
      refine s_run rfl rfl (r_slo' (i := 2) (o2 := o2) (l2 := t.length) (c2 := c - 2) rfl rfl rfl (by omega) ho2 (by omega) rfl Try.underlying25 sz22) ?_
      refine s_run rfl rfl (r_as (v := .slice _ _ _) rfl) ?_
      refine k_nil ?_
      refine c_norm ?_
      refine k_seq ?_
      refine k_rg ?_
      refine s_run rfl rfl (r_mv (v := .int _ _) rfl) ?_
      refine s_run rfl rfl (r_mv (v := .slice _ _ _) rfl) ?_
      refine s_run rfl rfl (r_len rfl Try.underlying25) ?_
      refine s_run rfl rfl (r_sub rfl rfl (wI (by omega))) ?_
      refine s_run rfl rfl (r_cv rfl (by kernel_rfl) Try.underlying22 (wU (by omega))) ?_
      refine s_run rfl rfl (r_as (v := .int _ _) rfl) ?_
      refine k_nil ?_
      refine c_norm ?_
      refine k_seq ?_
      refine k_seq ?_
      refine k_cut (fun f W => f 0 = .slice (some ⟨b, o2, none⟩) t.length (c - 2) ∧ f 1 = .int .i64 N ∧ f 6 = .slice A2 out.length c2 ∧ f 7 = .int .u64 zz ∧ f 8 = .int .u64 mm ∧ f 67 = .bool (Im.bad zz mm (N - out.length) out.length) ∧ Heap w [] [ownN 1 (.slice A2 out.length c2) out.length (out.map (Value.int .u64)) 22] W) ?_ ?_
      · by_cases k1 : (zz : Int) > N - out.length
        · have hbd : Im.bad zz mm (N - out.length) out.length = true := decide_eq_true (by omega)
          rw [hbd]
          refine k_rg ?_
          refine s_run rfl rfl (r_mv (v := .int _ _) rfl) ?_
          refine s_run rfl rfl (r_mv (v := .int _ _) rfl) ?_
          refine s_run rfl rfl (r_gtrT rfl rfl (by omega)) ?_
          refine s_run rfl rfl (r_mv (v := .bool _) rfl) ?_
          refine s_off rfl (g_off 37 (by kernel_rfl) rfl rfl) ?_
          refine s_off rfl (g_off 37 (by kernel_rfl) rfl rfl) ?_
          refine s_off rfl (g_off 37 (by kernel_rfl) rfl rfl) ?_
          refine s_off rfl (g_off 37 (by kernel_rfl) rfl rfl) ?_
          refine s_off rfl (g_off 37 (by kernel_rfl) rfl rfl) ?_
          refine s_run rfl rfl (r_pkT (v := .bool _) rfl rfl) ?_
          refine s_run rfl rfl (r_mv (v := .bool _) rfl) ?_
          refine s_off rfl (g_off 44 (by kernel_rfl) rfl rfl) ?_
          refine s_off rfl (g_off 44 (by kernel_rfl) rfl rfl) ?_
          refine s_off rfl (g_off 44 (by kernel_rfl) rfl rfl) ?_
          refine s_off rfl (g_off 44 (by kernel_rfl) rfl rfl) ?_
          refine s_run rfl rfl (r_pkT (v := .bool _) rfl rfl) ?_
          refine s_run rfl rfl (r_mv (v := .bool _) rfl) ?_
          refine s_off rfl (g_off 50 (by kernel_rfl) rfl rfl) ?_
          refine s_off rfl (g_off 50 (by kernel_rfl) rfl rfl) ?_
          refine s_off rfl (g_off 50 (by kernel_rfl) rfl rfl) ?_
          refine s_off rfl (g_off 50 (by kernel_rfl) rfl rfl) ?_
          refine s_off rfl (g_un 54 (by kernel_rfl) rfl) ?_
          refine s_off rfl (g_un 54 (by kernel_rfl) rfl) ?_
          refine s_off rfl (g_off 50 (by kernel_rfl) rfl rfl) ?_
          refine s_run rfl rfl (r_pkT (v := .bool _) rfl rfl) ?_
          refine s_run rfl rfl (r_mv (v := .bool _) rfl) ?_
          refine s_off rfl (g_off 59 (by kernel_rfl) rfl rfl) ?_
          refine s_off rfl (g_off 59 (by kernel_rfl) rfl rfl) ?_
          refine s_off rfl (g_off 59 (by kernel_rfl) rfl rfl) ?_
          refine s_off rfl (g_un 62 (by kernel_rfl) rfl) ?_
          refine s_off rfl (g_un 62 (by kernel_rfl) rfl) ?_
          refine s_off rfl (g_un 62 (by kernel_rfl) rfl) ?_
          refine s_off rfl (g_off 59 (by kernel_rfl) rfl rfl) ?_
          refine s_run rfl rfl (r_pkT (v := .bool _) rfl rfl) ?_
          refine k_nil ?_
          refine k_met ?_
          exact ⟨rfl, rfl, rfl, rfl, rfl, rfl, H⟩
        by_cases k2 : (mm : Int) > N - out.length - zz
        · have hbd : Im.bad zz mm (N - out.length) out.length = true := decide_eq_true (by omega)
          rw [hbd]
          refine k_rg ?_
          refine s_run rfl rfl (r_mv (v := .int _ _) rfl) ?_
          refine s_run rfl rfl (r_mv (v := .int _ _) rfl) ?_
          refine s_run rfl rfl (r_gtrF rfl rfl (by omega)) ?_
          refine s_run rfl rfl (r_mv (v := .bool _) rfl) ?_
          refine s_run rfl (g_on 37 (by kernel_rfl) rfl) (r_mv (v := .int _ _) rfl) ?_
          refine s_run rfl (g_on 37 (by kernel_rfl) rfl) (r_mv (v := .int _ _) rfl) ?_
          refine s_run rfl (g_on 37 (by kernel_rfl) rfl) (r_mv (v := .int _ _) rfl) ?_
          refine s_run rfl (g_on 37 (by kernel_rfl) rfl) (r_sub rfl rfl (wU (by omega))) ?_
          refine s_run rfl (g_on 37 (by kernel_rfl) rfl) (r_gtrT rfl rfl (by omega)) ?_
          refine s_run rfl rfl (r_pkF (v := .bool _) rfl rfl) ?_
          refine s_run rfl rfl (r_mv (v := .bool _) rfl) ?_
          refine s_off rfl (g_off 44 (by kernel_rfl) rfl rfl) ?_
          refine s_off rfl (g_off 44 (by kernel_rfl) rfl rfl) ?_
          refine s_off rfl (g_off 44 (by kernel_rfl) rfl rfl) ?_
          refine s_off rfl (g_off 44 (by kernel_rfl) rfl rfl) ?_
          refine s_run rfl rfl (r_pkT (v := .bool _) rfl rfl) ?_
          refine s_run rfl rfl (r_mv (v := .bool _) rfl) ?_
          refine s_off rfl (g_off 50 (by kernel_rfl) rfl rfl) ?_
          refine s_off rfl (g_off 50 (by kernel_rfl) rfl rfl) ?_
          refine s_off rfl (g_off 50 (by kernel_rfl) rfl rfl) ?_
          refine s_off rfl (g_off 50 (by kernel_rfl) rfl rfl) ?_
          refine s_off rfl (g_un 54 (by kernel_rfl) rfl) ?_
          refine s_off rfl (g_un 54 (by kernel_rfl) rfl) ?_
          refine s_off rfl (g_off 50 (by kernel_rfl) rfl rfl) ?_
          refine s_run rfl rfl (r_pkT (v := .bool _) rfl rfl) ?_
          refine s_run rfl rfl (r_mv (v := .bool _) rfl) ?_
          refine s_off rfl (g_off 59 (by kernel_rfl) rfl rfl) ?_
          refine s_off rfl (g_off 59 (by kernel_rfl) rfl rfl) ?_
          refine s_off rfl (g_off 59 (by kernel_rfl) rfl rfl) ?_
          refine s_off rfl (g_un 62 (by kernel_rfl) rfl) ?_
          refine s_off rfl (g_un 62 (by kernel_rfl) rfl) ?_
          refine s_off rfl (g_un 62 (by kernel_rfl) rfl) ?_
          refine s_off rfl (g_off 59 (by kernel_rfl) rfl rfl) ?_
          refine s_run rfl rfl (r_pkT (v := .bool _) rfl rfl) ?_
          refine k_nil ?_
          refine k_met ?_
          exact ⟨rfl, rfl, rfl, rfl, rfl, rfl, H⟩
        by_cases k3 : (zz : Int) + mm = 0
        · have hbd : Im.bad zz mm (N - out.length) out.length = true := decide_eq_true (by omega)
          rw [hbd]
          refine k_rg ?_
          refine s_run rfl rfl (r_mv (v := .int _ _) rfl) ?_
          refine s_run rfl rfl (r_mv (v := .int _ _) rfl) ?_
          refine s_run rfl rfl (r_gtrF rfl rfl (by omega)) ?_
          refine s_run rfl rfl (r_mv (v := .bool _) rfl) ?_
          refine s_run rfl (g_on 37 (by kernel_rfl) rfl) (r_mv (v := .int _ _) rfl) ?_
          refine s_run rfl (g_on 37 (by kernel_rfl) rfl) (r_mv (v := .int _ _) rfl) ?_
          refine s_run rfl (g_on 37 (by kernel_rfl) rfl) (r_mv (v := .int _ _) rfl) ?_
          refine s_run rfl (g_on 37 (by kernel_rfl) rfl) (r_sub rfl rfl (wU (by omega))) ?_
          refine s_run rfl (g_on 37 (by kernel_rfl) rfl) (r_gtrF rfl rfl (by omega)) ?_
          refine s_run rfl rfl (r_pkF (v := .bool _) rfl rfl) ?_
          refine s_run rfl rfl (r_mv (v := .bool _) rfl) ?_
          refine s_run rfl (g_on 44 (by kernel_rfl) rfl) (r_mv (v := .int _ _) rfl) ?_
          refine s_run rfl (g_on 44 (by kernel_rfl) rfl) (r_mv (v := .int _ _) rfl) ?_
          refine s_run rfl (g_on 44 (by kernel_rfl) rfl) (r_add rfl rfl (wU (by omega))) ?_
          refine s_run rfl (g_on 44 (by kernel_rfl) rfl) (r_eqlT rfl rfl (by omega)) ?_
          refine s_run rfl rfl (r_pkF (v := .bool _) rfl rfl) ?_
          refine s_run rfl rfl (r_mv (v := .bool _) rfl) ?_
          refine s_off rfl (g_off 50 (by kernel_rfl) rfl rfl) ?_
          refine s_off rfl (g_off 50 (by kernel_rfl) rfl rfl) ?_
          refine s_off rfl (g_off 50 (by kernel_rfl) rfl rfl) ?_
          refine s_off rfl (g_off 50 (by kernel_rfl) rfl rfl) ?_
          refine s_off rfl (g_un 54 (by kernel_rfl) rfl) ?_
          refine s_off rfl (g_un 54 (by kernel_rfl) rfl) ?_
          refine s_off rfl (g_off 50 (by kernel_rfl) rfl rfl) ?_
          refine s_run rfl rfl (r_pkT (v := .bool _) rfl rfl) ?_
          refine s_run rfl rfl (r_mv (v := .bool _) rfl) ?_
          refine s_off rfl (g_off 59 (by kernel_rfl) rfl rfl) ?_
          refine s_off rfl (g_off 59 (by kernel_rfl) rfl rfl) ?_
          refine s_off rfl (g_off 59 (by kernel_rfl) rfl rfl) ?_
          refine s_off rfl (g_un 62 (by kernel_rfl) rfl) ?_
          refine s_off rfl (g_un 62 (by kernel_rfl) rfl) ?_
          refine s_off rfl (g_un 62 (by kernel_rfl) rfl) ?_
          refine s_off rfl (g_off 59 (by kernel_rfl) rfl rfl) ?_
          refine s_run rfl rfl (r_pkT (v := .bool _) rfl rfl) ?_
          refine k_nil ?_
          refine k_met ?_
          exact ⟨rfl, rfl, rfl, rfl, rfl, rfl, H⟩
        by_cases k4 : 0 < out.length
        · by_cases k5 : zz = 0
          · have hbd : Im.bad zz mm (N - out.length) out.length = true := decide_eq_true (by omega)
            rw [hbd]
            refine k_rg ?_
            refine s_run rfl rfl (r_mv (v := .int _ _) rfl) ?_
            refine s_run rfl rfl (r_mv (v := .int _ _) rfl) ?_
            refine s_run rfl rfl (r_gtrF rfl rfl (by omega)) ?_
            refine s_run rfl rfl (r_mv (v := .bool _) rfl) ?_
            refine s_run rfl (g_on 37 (by kernel_rfl) rfl) (r_mv (v := .int _ _) rfl) ?_
            refine s_run rfl (g_on 37 (by kernel_rfl) rfl) (r_mv (v := .int _ _) rfl) ?_
            refine s_run rfl (g_on 37 (by kernel_rfl) rfl) (r_mv (v := .int _ _) rfl) ?_
            refine s_run rfl (g_on 37 (by kernel_rfl) rfl) (r_sub rfl rfl (wU (by omega))) ?_
            refine s_run rfl (g_on 37 (by kernel_rfl) rfl) (r_gtrF rfl rfl (by omega)) ?_
            refine s_run rfl rfl (r_pkF (v := .bool _) rfl rfl) ?_
            refine s_run rfl rfl (r_mv (v := .bool _) rfl) ?_
            refine s_run rfl (g_on 44 (by kernel_rfl) rfl) (r_mv (v := .int _ _) rfl) ?_
            refine s_run rfl (g_on 44 (by kernel_rfl) rfl) (r_mv (v := .int _ _) rfl) ?_
            refine s_run rfl (g_on 44 (by kernel_rfl) rfl) (r_add rfl rfl (wU (by omega))) ?_
            refine s_run rfl (g_on 44 (by kernel_rfl) rfl) (r_eqlF rfl rfl (by omega)) ?_
            refine s_run rfl rfl (r_pkF (v := .bool _) rfl rfl) ?_
            refine s_run rfl rfl (r_mv (v := .bool _) rfl) ?_
            refine s_run rfl (g_on 50 (by kernel_rfl) rfl) (r_mv (v := .slice _ _ _) rfl) ?_
            refine s_run rfl (g_on 50 (by kernel_rfl) rfl) (r_len rfl Try.underlying25) ?_
            refine s_run rfl (g_on 50 (by kernel_rfl) rfl) (r_gtrT rfl rfl (by omega)) ?_
            refine s_run rfl (g_on 50 (by kernel_rfl) rfl) (r_mv (v := .bool _) rfl) ?_
            refine s_run rfl (g_on 54 (by kernel_rfl) rfl) (r_mv (v := .int _ _) rfl) ?_
            refine s_run rfl (g_on 54 (by kernel_rfl) rfl) (r_eqlT rfl rfl (by omega)) ?_
            refine s_run rfl (g_on 50 (by kernel_rfl) rfl) (r_pkT (v := .bool _) rfl rfl) ?_
            refine s_run rfl rfl (r_pkF (v := .bool _) rfl rfl) ?_
            refine s_run rfl rfl (r_mv (v := .bool _) rfl) ?_
            refine s_off rfl (g_off 59 (by kernel_rfl) rfl rfl) ?_
            refine s_off rfl (g_off 59 (by kernel_rfl) rfl rfl) ?_
            refine s_off rfl (g_off 59 (by kernel_rfl) rfl rfl) ?_
            refine s_off rfl (g_un 62 (by kernel_rfl) rfl) ?_
            refine s_off rfl (g_un 62 (by kernel_rfl) rfl) ?_
            refine s_off rfl (g_un 62 (by kernel_rfl) rfl) ?_
            refine s_off rfl (g_off 59 (by kernel_rfl) rfl rfl) ?_
            refine s_run rfl rfl (r_pkT (v := .bool _) rfl rfl) ?_
            refine k_nil ?_
            refine k_met ?_
            exact ⟨rfl, rfl, rfl, rfl, rfl, rfl, H⟩
          by_cases k6 : mm = 0
          · by_cases k7 : (zz : Int) = N - out.length
            · have hbd : Im.bad zz mm (N - out.length) out.length = false := decide_eq_false (by omega)
              rw [hbd]
              refine k_rg ?_
              refine s_run rfl rfl (r_mv (v := .int _ _) rfl) ?_
              refine s_run rfl rfl (r_mv (v := .int _ _) rfl) ?_
              refine s_run rfl rfl (r_gtrF rfl rfl (by omega)) ?_
              refine s_run rfl rfl (r_mv (v := .bool _) rfl) ?_
              refine s_run rfl (g_on 37 (by kernel_rfl) rfl) (r_mv (v := .int _ _) rfl) ?_
              refine s_run rfl (g_on 37 (by kernel_rfl) rfl) (r_mv (v := .int _ _) rfl) ?_
              refine s_run rfl (g_on 37 (by kernel_rfl) rfl) (r_mv (v := .int _ _) rfl) ?_
              refine s_run rfl (g_on 37 (by kernel_rfl) rfl) (r_sub rfl rfl (wU (by omega))) ?_
              refine s_run rfl (g_on 37 (by kernel_rfl) rfl) (r_gtrF rfl rfl (by omega)) ?_
              refine s_run rfl rfl (r_pkF (v := .bool _) rfl rfl) ?_
              refine s_run rfl rfl (r_mv (v := .bool _) rfl) ?_
              refine s_run rfl (g_on 44 (by kernel_rfl) rfl) (r_mv (v := .int _ _) rfl) ?_
              refine s_run rfl (g_on 44 (by kernel_rfl) rfl) (r_mv (v := .int _ _) rfl) ?_
              refine s_run rfl (g_on 44 (by kernel_rfl) rfl) (r_add rfl rfl (wU (by omega))) ?_
              refine s_run rfl (g_on 44 (by kernel_rfl) rfl) (r_eqlF rfl rfl (by omega)) ?_
              refine s_run rfl rfl (r_pkF (v := .bool _) rfl rfl) ?_
              refine s_run rfl rfl (r_mv (v := .bool _) rfl) ?_
              refine s_run rfl (g_on 50 (by kernel_rfl) rfl) (r_mv (v := .slice _ _ _) rfl) ?_
              refine s_run rfl (g_on 50 (by kernel_rfl) rfl) (r_len rfl Try.underlying25) ?_
              refine s_run rfl (g_on 50 (by kernel_rfl) rfl) (r_gtrT rfl rfl (by omega)) ?_
              refine s_run rfl (g_on 50 (by kernel_rfl) rfl) (r_mv (v := .bool _) rfl) ?_
              refine s_run rfl (g_on 54 (by kernel_rfl) rfl) (r_mv (v := .int _ _) rfl) ?_
              refine s_run rfl (g_on 54 (by kernel_rfl) rfl) (r_eqlF rfl rfl (by omega)) ?_
              refine s_run rfl (g_on 50 (by kernel_rfl) rfl) (r_pkT (v := .bool _) rfl rfl) ?_
              refine s_run rfl rfl (r_pkF (v := .bool _) rfl rfl) ?_
              refine s_run rfl rfl (r_mv (v := .bool _) rfl) ?_
              refine s_run rfl (g_on 59 (by kernel_rfl) rfl) (r_mv (v := .int _ _) rfl) ?_
              refine s_run rfl (g_on 59 (by kernel_rfl) rfl) (r_eqlT rfl rfl (by omega)) ?_
              refine s_run rfl (g_on 59 (by kernel_rfl) rfl) (r_mv (v := .bool _) rfl) ?_
              refine s_run rfl (g_on 62 (by kernel_rfl) rfl) (r_mv (v := .int _ _) rfl) ?_
              refine s_run rfl (g_on 62 (by kernel_rfl) rfl) (r_mv (v := .int _ _) rfl) ?_
              refine s_run rfl (g_on 62 (by kernel_rfl) rfl) (r_neqF rfl rfl (by omega)) ?_
              refine s_run rfl (g_on 59 (by kernel_rfl) rfl) (r_pkT (v := .bool _) rfl rfl) ?_
              refine s_run rfl rfl (r_pkF (v := .bool _) rfl rfl) ?_
              refine k_nil ?_
              refine k_met ?_
              exact ⟨rfl, rfl, rfl, rfl, rfl, rfl, H⟩
            · have hbd : Im.bad zz mm (N - out.length) out.length = true := decide_eq_true (by omega)
              rw [hbd]
              refine k_rg ?_
              refine s_run rfl rfl (r_mv (v := .int _ _) rfl) ?_
              refine s_run rfl rfl (r_mv (v := .int _ _) rfl) ?_
              refine s_run rfl rfl (r_gtrF rfl rfl (by omega)) ?_
              refine s_run rfl rfl (r_mv (v := .bool _) rfl) ?_
              refine s_run rfl (g_on 37 (by kernel_rfl) rfl) (r_mv (v := .int _ _) rfl) ?_
              refine s_run rfl (g_on 37 (by kernel_rfl) rfl) (r_mv (v := .int _ _) rfl) ?_
              refine s_run rfl (g_on 37 (by kernel_rfl) rfl) (r_mv (v := .int _ _) rfl) ?_
              refine s_run rfl (g_on 37 (by kernel_rfl) rfl) (r_sub rfl rfl (wU (by omega))) ?_
              refine s_run rfl (g_on 37 (by kernel_rfl) rfl) (r_gtrF rfl rfl (by omega)) ?_
              refine s_run rfl rfl (r_pkF (v := .bool _) rfl rfl) ?_
              refine s_run rfl rfl (r_mv (v := .bool _) rfl) ?_
              refine s_run rfl (g_on 44 (by kernel_rfl) rfl) (r_mv (v := .int _ _) rfl) ?_
              refine s_run rfl (g_on 44 (by kernel_rfl) rfl) (r_mv (v := .int _ _) rfl) ?_
              refine s_run rfl (g_on 44 (by kernel_rfl) rfl) (r_add rfl rfl (wU (by omega))) ?_
              refine s_run rfl (g_on 44 (by kernel_rfl) rfl) (r_eqlF rfl rfl (by omega)) ?_
              refine s_run rfl rfl (r_pkF (v := .bool _) rfl rfl) ?_
              refine s_run rfl rfl (r_mv (v := .bool _) rfl) ?_
              refine s_run rfl (g_on 50 (by kernel_rfl) rfl) (r_mv (v := .slice _ _ _) rfl) ?_
              refine s_run rfl (g_on 50 (by kernel_rfl) rfl) (r_len rfl Try.underlying25) ?_
              refine s_run rfl (g_on 50 (by kernel_rfl) rfl) (r_gtrT rfl rfl (by omega)) ?_
              refine s_run rfl (g_on 50 (by kernel_rfl) rfl) (r_mv (v := .bool _) rfl) ?_
              refine s_run rfl (g_on 54 (by kernel_rfl) rfl) (r_mv (v := .int _ _) rfl) ?_
              refine s_run rfl (g_on 54 (by kernel_rfl) rfl) (r_eqlF rfl rfl (by omega)) ?_
              refine s_run rfl (g_on 50 (by kernel_rfl) rfl) (r_pkT (v := .bool _) rfl rfl) ?_
              refine s_run rfl rfl (r_pkF (v := .bool _) rfl rfl) ?_
              refine s_run rfl rfl (r_mv (v := .bool _) rfl) ?_
              refine s_run rfl (g_on 59 (by kernel_rfl) rfl) (r_mv (v := .int _ _) rfl) ?_
              refine s_run rfl (g_on 59 (by kernel_rfl) rfl) (r_eqlT rfl rfl (by omega)) ?_
              refine s_run rfl (g_on 59 (by kernel_rfl) rfl) (r_mv (v := .bool _) rfl) ?_
              refine s_run rfl (g_on 62 (by kernel_rfl) rfl) (r_mv (v := .int _ _) rfl) ?_
              refine s_run rfl (g_on 62 (by kernel_rfl) rfl) (r_mv (v := .int _ _) rfl) ?_
              refine s_run rfl (g_on 62 (by kernel_rfl) rfl) (r_neqT rfl rfl (by omega)) ?_
              refine s_run rfl (g_on 59 (by kernel_rfl) rfl) (r_pkT (v := .bool _) rfl rfl) ?_
              refine s_run rfl rfl (r_pkF (v := .bool _) rfl rfl) ?_
              refine k_nil ?_
              refine k_met ?_
              exact ⟨rfl, rfl, rfl, rfl, rfl, rfl, H⟩
          · have hbd : Im.bad zz mm (N - out.length) out.length = false := decide_eq_false (by omega)
            rw [hbd]
            refine k_rg ?_
            refine s_run rfl rfl (r_mv (v := .int _ _) rfl) ?_
            refine s_run rfl rfl (r_mv (v := .int _ _) rfl) ?_
            refine s_run rfl rfl (r_gtrF rfl rfl (by omega)) ?_
            refine s_run rfl rfl (r_mv (v := .bool _) rfl) ?_
            refine s_run rfl (g_on 37 (by kernel_rfl) rfl) (r_mv (v := .int _ _) rfl) ?_
            refine s_run rfl (g_on 37 (by kernel_rfl) rfl) (r_mv (v := .int _ _) rfl) ?_
            refine s_run rfl (g_on 37 (by kernel_rfl) rfl) (r_mv (v := .int _ _) rfl) ?_
            refine s_run rfl (g_on 37 (by kernel_rfl) rfl) (r_sub rfl rfl (wU (by omega))) ?_
            refine s_run rfl (g_on 37 (by kernel_rfl) rfl) (r_gtrF rfl rfl (by omega)) ?_
            refine s_run rfl rfl (r_pkF (v := .bool _) rfl rfl) ?_
            refine s_run rfl rfl (r_mv (v := .bool _) rfl) ?_
            refine s_run rfl (g_on 44 (by kernel_rfl) rfl) (r_mv (v := .int _ _) rfl) ?_
            refine s_run rfl (g_on 44 (by kernel_rfl) rfl) (r_mv (v := .int _ _) rfl) ?_
            refine s_run rfl (g_on 44 (by kernel_rfl) rfl) (r_add rfl rfl (wU (by omega))) ?_
            refine s_run rfl (g_on 44 (by kernel_rfl) rfl) (r_eqlF rfl rfl (by omega)) ?_
            refine s_run rfl rfl (r_pkF (v := .bool _) rfl rfl) ?_
            refine s_run rfl rfl (r_mv (v := .bool _) rfl) ?_
            refine s_run rfl (g_on 50 (by kernel_rfl) rfl) (r_mv (v := .slice _ _ _) rfl) ?_
            refine s_run rfl (g_on 50 (by kernel_rfl) rfl) (r_len rfl Try.underlying25) ?_
            refine s_run rfl (g_on 50 (by kernel_rfl) rfl) (r_gtrT rfl rfl (by omega)) ?_
            refine s_run rfl (g_on 50 (by kernel_rfl) rfl) (r_mv (v := .bool _) rfl) ?_
            refine s_run rfl (g_on 54 (by kernel_rfl) rfl) (r_mv (v := .int _ _) rfl) ?_
            refine s_run rfl (g_on 54 (by kernel_rfl) rfl) (r_eqlF rfl rfl (by omega)) ?_
            refine s_run rfl (g_on 50 (by kernel_rfl) rfl) (r_pkT (v := .bool _) rfl rfl) ?_
            refine s_run rfl rfl (r_pkF (v := .bool _) rfl rfl) ?_
            refine s_run rfl rfl (r_mv (v := .bool _) rfl) ?_
            refine s_run rfl (g_on 59 (by kernel_rfl) rfl) (r_mv (v := .int _ _) rfl) ?_
            refine s_run rfl (g_on 59 (by kernel_rfl) rfl) (r_eqlF rfl rfl (by omega)) ?_
            refine s_run rfl (g_on 59 (by kernel_rfl) rfl) (r_mv (v := .bool _) rfl) ?_
            refine s_off rfl (g_off 62 (by kernel_rfl) rfl rfl) ?_
            refine s_off rfl (g_off 62 (by kernel_rfl) rfl rfl) ?_
            refine s_off rfl (g_off 62 (by kernel_rfl) rfl rfl) ?_
            refine s_run rfl (g_on 59 (by kernel_rfl) rfl) (r_pkF (v := .bool _) rfl rfl) ?_
            refine s_run rfl rfl (r_pkF (v := .bool _) rfl rfl) ?_
            refine k_nil ?_
            refine k_met ?_
            exact ⟨rfl, rfl, rfl, rfl, rfl, rfl, H⟩
        by_cases k6 : mm = 0
        · by_cases k7 : (zz : Int) = N - out.length
          · have hbd : Im.bad zz mm (N - out.length) out.length = false := decide_eq_false (by omega)
            rw [hbd]
            refine k_rg ?_
            refine s_run rfl rfl (r_mv (v := .int _ _) rfl) ?_
            refine s_run rfl rfl (r_mv (v := .int _ _) rfl) ?_
            refine s_run rfl rfl (r_gtrF rfl rfl (by omega)) ?_
            refine s_run rfl rfl (r_mv (v := .bool _) rfl) ?_
            refine s_run rfl (g_on 37 (by kernel_rfl) rfl) (r_mv (v := .int _ _) rfl) ?_
            refine s_run rfl (g_on 37 (by kernel_rfl) rfl) (r_mv (v := .int _ _) rfl) ?_
            refine s_run rfl (g_on 37 (by kernel_rfl) rfl) (r_mv (v := .int _ _) rfl) ?_
            refine s_run rfl (g_on 37 (by kernel_rfl) rfl) (r_sub rfl rfl (wU (by omega))) ?_
            refine s_run rfl (g_on 37 (by kernel_rfl) rfl) (r_gtrF rfl rfl (by omega)) ?_
            refine s_run rfl rfl (r_pkF (v := .bool _) rfl rfl) ?_
            refine s_run rfl rfl (r_mv (v := .bool _) rfl) ?_
            refine s_run rfl (g_on 44 (by kernel_rfl) rfl) (r_mv (v := .int _ _) rfl) ?_
            refine s_run rfl (g_on 44 (by kernel_rfl) rfl) (r_mv (v := .int _ _) rfl) ?_
            refine s_run rfl (g_on 44 (by kernel_rfl) rfl) (r_add rfl rfl (wU (by omega))) ?_
            refine s_run rfl (g_on 44 (by kernel_rfl) rfl) (r_eqlF rfl rfl (by omega)) ?_
            refine s_run rfl rfl (r_pkF (v := .bool _) rfl rfl) ?_
            refine s_run rfl rfl (r_mv (v := .bool _) rfl) ?_
            refine s_run rfl (g_on 50 (by kernel_rfl) rfl) (r_mv (v := .slice _ _ _) rfl) ?_
            refine s_run rfl (g_on 50 (by kernel_rfl) rfl) (r_len rfl Try.underlying25) ?_
            refine s_run rfl (g_on 50 (by kernel_rfl) rfl) (r_gtrF rfl rfl (by omega)) ?_
            refine s_run rfl (g_on 50 (by kernel_rfl) rfl) (r_mv (v := .bool _) rfl) ?_
            refine s_off rfl (g_off 54 (by kernel_rfl) rfl rfl) ?_
            refine s_off rfl (g_off 54 (by kernel_rfl) rfl rfl) ?_
            refine s_run rfl (g_on 50 (by kernel_rfl) rfl) (r_pkF (v := .bool _) rfl rfl) ?_
            refine s_run rfl rfl (r_pkF (v := .bool _) rfl rfl) ?_
            refine s_run rfl rfl (r_mv (v := .bool _) rfl) ?_
            refine s_run rfl (g_on 59 (by kernel_rfl) rfl) (r_mv (v := .int _ _) rfl) ?_
            refine s_run rfl (g_on 59 (by kernel_rfl) rfl) (r_eqlT rfl rfl (by omega)) ?_
            refine s_run rfl (g_on 59 (by kernel_rfl) rfl) (r_mv (v := .bool _) rfl) ?_
            refine s_run rfl (g_on 62 (by kernel_rfl) rfl) (r_mv (v := .int _ _) rfl) ?_
            refine s_run rfl (g_on 62 (by kernel_rfl) rfl) (r_mv (v := .int _ _) rfl) ?_
            refine s_run rfl (g_on 62 (by kernel_rfl) rfl) (r_neqF rfl rfl (by omega)) ?_
            refine s_run rfl (g_on 59 (by kernel_rfl) rfl) (r_pkT (v := .bool _) rfl rfl) ?_
            refine s_run rfl rfl (r_pkF (v := .bool _) rfl rfl) ?_
            refine k_nil ?_
            refine k_met ?_
            exact ⟨rfl, rfl, rfl, rfl, rfl, rfl, H⟩
          · have hbd : Im.bad zz mm (N - out.length) out.length = true := decide_eq_true (by omega)
            rw [hbd]
            refine k_rg ?_
            refine s_run rfl rfl (r_mv (v := .int _ _) rfl) ?_
            refine s_run rfl rfl (r_mv (v := .int _ _) rfl) ?_
            refine s_run rfl rfl (r_gtrF rfl rfl (by omega)) ?_
            refine s_run rfl rfl (r_mv (v := .bool _) rfl) ?_
            refine s_run rfl (g_on 37 (by kernel_rfl) rfl) (r_mv (v := .int _ _) rfl) ?_
            refine s_run rfl (g_on 37 (by kernel_rfl) rfl) (r_mv (v := .int _ _) rfl) ?_
            refine s_run rfl (g_on 37 (by kernel_rfl) rfl) (r_mv (v := .int _ _) rfl) ?_
            refine s_run rfl (g_on 37 (by kernel_rfl) rfl) (r_sub rfl rfl (wU (by omega))) ?_
            refine s_run rfl (g_on 37 (by kernel_rfl) rfl) (r_gtrF rfl rfl (by omega)) ?_
            refine s_run rfl rfl (r_pkF (v := .bool _) rfl rfl) ?_
            refine s_run rfl rfl (r_mv (v := .bool _) rfl) ?_
            refine s_run rfl (g_on 44 (by kernel_rfl) rfl) (r_mv (v := .int _ _) rfl) ?_
            refine s_run rfl (g_on 44 (by kernel_rfl) rfl) (r_mv (v := .int _ _) rfl) ?_
            refine s_run rfl (g_on 44 (by kernel_rfl) rfl) (r_add rfl rfl (wU (by omega))) ?_
            refine s_run rfl (g_on 44 (by kernel_rfl) rfl) (r_eqlF rfl rfl (by omega)) ?_
            refine s_run rfl rfl (r_pkF (v := .bool _) rfl rfl) ?_
            refine s_run rfl rfl (r_mv (v := .bool _) rfl) ?_
            refine s_run rfl (g_on 50 (by kernel_rfl) rfl) (r_mv (v := .slice _ _ _) rfl) ?_
            refine s_run rfl (g_on 50 (by kernel_rfl) rfl) (r_len rfl Try.underlying25) ?_
            refine s_run rfl (g_on 50 (by kernel_rfl) rfl) (r_gtrF rfl rfl (by omega)) ?_
            refine s_run rfl (g_on 50 (by kernel_rfl) rfl) (r_mv (v := .bool _) rfl) ?_
            refine s_off rfl (g_off 54 (by kernel_rfl) rfl rfl) ?_
            refine s_off rfl (g_off 54 (by kernel_rfl) rfl rfl) ?_
            refine s_run rfl (g_on 50 (by kernel_rfl) rfl) (r_pkF (v := .bool _) rfl rfl) ?_
            refine s_run rfl rfl (r_pkF (v := .bool _) rfl rfl) ?_
            refine s_run rfl rfl (r_mv (v := .bool _) rfl) ?_
            refine s_run rfl (g_on 59 (by kernel_rfl) rfl) (r_mv (v := .int _ _) rfl) ?_
            refine s_run rfl (g_on 59 (by kernel_rfl) rfl) (r_eqlT rfl rfl (by omega)) ?_
            refine s_run rfl (g_on 59 (by kernel_rfl) rfl) (r_mv (v := .bool _) rfl) ?_
            refine s_run rfl (g_on 62 (by kernel_rfl) rfl) (r_mv (v := .int _ _) rfl) ?_
            refine s_run rfl (g_on 62 (by kernel_rfl) rfl) (r_mv (v := .int _ _) rfl) ?_
            refine s_run rfl (g_on 62 (by kernel_rfl) rfl) (r_neqT rfl rfl (by omega)) ?_
            refine s_run rfl (g_on 59 (by kernel_rfl) rfl) (r_pkT (v := .bool _) rfl rfl) ?_
            refine s_run rfl rfl (r_pkF (v := .bool _) rfl rfl) ?_
            refine k_nil ?_
            refine k_met ?_
            exact ⟨rfl, rfl, rfl, rfl, rfl, rfl, H⟩
        · have hbd : Im.bad zz mm (N - out.length) out.length = false := decide_eq_false (by omega)
          rw [hbd]
          refine k_rg ?_
          refine s_run rfl rfl (r_mv (v := .int _ _) rfl) ?_
          refine s_run rfl rfl (r_mv (v := .int _ _) rfl) ?_
          refine s_run rfl rfl (r_gtrF rfl rfl (by omega)) ?_
          refine s_run rfl rfl (r_mv (v := .bool _) rfl) ?_
          refine s_run rfl (g_on 37 (by kernel_rfl) rfl) (r_mv (v := .int _ _) rfl) ?_
          refine s_run rfl (g_on 37 (by kernel_rfl) rfl) (r_mv (v := .int _ _) rfl) ?_
          refine s_run rfl (g_on 37 (by kernel_rfl) rfl) (r_mv (v := .int _ _) rfl) ?_
          refine s_run rfl (g_on 37 (by kernel_rfl) rfl) (r_sub rfl rfl (wU (by omega))) ?_
          refine s_run rfl (g_on 37 (by kernel_rfl) rfl) (r_gtrF rfl rfl (by omega)) ?_
          refine s_run rfl rfl (r_pkF (v := .bool _) rfl rfl) ?_
          refine s_run rfl rfl (r_mv (v := .bool _) rfl) ?_
          refine s_run rfl (g_on 44 (by kernel_rfl) rfl) (r_mv (v := .int _ _) rfl) ?_
          refine s_run rfl (g_on 44 (by kernel_rfl) rfl) (r_mv (v := .int _ _) rfl) ?_
          refine s_run rfl (g_on 44 (by kernel_rfl) rfl) (r_add rfl rfl (wU (by omega))) ?_
          refine s_run rfl (g_on 44 (by kernel_rfl) rfl) (r_eqlF rfl rfl (by omega)) ?_
          refine s_run rfl rfl (r_pkF (v := .bool _) rfl rfl) ?_
          refine s_run rfl rfl (r_mv (v := .bool _) rfl) ?_
          refine s_run rfl (g_on 50 (by kernel_rfl) rfl) (r_mv (v := .slice _ _ _) rfl) ?_
          refine s_run rfl (g_on 50 (by kernel_rfl) rfl) (r_len rfl Try.underlying25) ?_
          refine s_run rfl (g_on 50 (by kernel_rfl) rfl) (r_gtrF rfl rfl (by omega)) ?_
          refine s_run rfl (g_on 50 (by kernel_rfl) rfl) (r_mv (v := .bool _) rfl) ?_
          refine s_off rfl (g_off 54 (by kernel_rfl) rfl rfl) ?_
          refine s_off rfl (g_off 54 (by kernel_rfl) rfl rfl) ?_
          refine s_run rfl (g_on 50 (by kernel_rfl) rfl) (r_pkF (v := .bool _) rfl rfl) ?_
          refine s_run rfl rfl (r_pkF (v := .bool _) rfl rfl) ?_
          refine s_run rfl rfl (r_mv (v := .bool _) rfl) ?_
          refine s_run rfl (g_on 59 (by kernel_rfl) rfl) (r_mv (v := .int _ _) rfl) ?_
          refine s_run rfl (g_on 59 (by kernel_rfl) rfl) (r_eqlF rfl rfl (by omega)) ?_
          refine s_run rfl (g_on 59 (by kernel_rfl) rfl) (r_mv (v := .bool _) rfl) ?_
          refine s_off rfl (g_off 62 (by kernel_rfl) rfl rfl) ?_
          refine s_off rfl (g_off 62 (by kernel_rfl) rfl rfl) ?_
          refine s_off rfl (g_off 62 (by kernel_rfl) rfl rfl) ?_
          refine s_run rfl (g_on 59 (by kernel_rfl) rfl) (r_pkF (v := .bool _) rfl rfl) ?_
          refine s_run rfl rfl (r_pkF (v := .bool _) rfl rfl) ?_
          refine k_nil ?_
          refine k_met ?_
          exact ⟨rfl, rfl, rfl, rfl, rfl, rfl, H⟩
      · clear H
        rintro f W ⟨f0, f1, f6, f7, f8, f67, H⟩
        by_cases hbd : Im.bad zz mm (N - out.length) out.length = true
        · rw [if_pos hbd] at hR
          rw [hbd] at f67
          obtain ⟨f, rfl⟩ := live6 f0 f1 f6 f7 f8 f67
          clear f0 f1 f6 f7 f8 f67
          subst hR
          refine c_norm ?_
          refine k_t rfl ?_
          refine k_seq ?_
          refine k_rg ?_
          refine s_run rfl rfl (r_as (v := .slice _ _ _) rfl) ?_
          refine s_run rfl rfl (r_as (v := .int _ _) rfl) ?_
          refine k_nil ?_
          refine c_norm ?_
          refine k_ret ?_
          refine c_ret ?_
          refine b_ret ?_
          refine c_ret ?_
          refine b_ret ?_
          refine c_ret ?_
          refine fin2r (v := .slice _ _ _) (v2 := .int _ _) rfl rfl rfl ?_
          exact RdPost.err H _
        · rw [if_neg hbd] at hR
          have hbd2 : Im.bad zz mm (N - out.length) out.length = false := by simpa using hbd
          rw [hbd2] at f67
          obtain ⟨f, rfl⟩ := live6 f0 f1 f6 f7 f8 f67
          clear f0 f1 f6 f7 f8 f67
          have hbd3 := of_decide_eq_false hbd2
          clear hbd hbd2
          by_cases hm : (mm : Int) > (t.length : Int)
          · rw [if_pos hm] at hR
            subst hR
            refine c_norm ?_
            refine k_f rfl ?_
            refine k_skip ?_
            refine c_norm ?_
            refine k_seq ?_
            refine k_seq ?_
            refine k_rg ?_
            refine s_run rfl rfl (r_mv (v := .int _ _) rfl) ?_
            refine s_run rfl rfl (r_mv (v := .slice _ _ _) rfl) ?_
            refine s_run rfl rfl (r_len rfl Try.underlying25) ?_
            refine s_run rfl rfl (r_cv rfl (by kernel_rfl) Try.underlying22 (wU (by omega))) ?_
            refine s_run rfl rfl (r_gtrT rfl rfl (by omega)) ?_
            refine k_nil ?_
            refine c_norm ?_
            refine k_t rfl ?_
            refine k_seq ?_
            refine k_rg ?_
            refine s_run rfl rfl (r_as (v := .slice _ _ _) rfl) ?_
            refine s_run rfl rfl (r_as (v := .int _ _) rfl) ?_
            refine k_nil ?_
            refine c_norm ?_
            refine k_ret ?_
            refine c_ret ?_
            refine b_ret ?_
            refine c_ret ?_
            refine b_ret ?_
            refine c_ret ?_
            refine fin2r (v := .slice _ _ _) (v2 := .int _ _) rfl rfl rfl ?_
            exact RdPost.err H _
          · rw [if_neg hm] at hR
            refine c_norm ?_
            refine k_f rfl ?_
            refine k_skip ?_
            refine c_norm ?_
            refine k_seq ?_
            refine k_seq ?_
            refine k_rg ?_
            refine s_run rfl rfl (r_mv (v := .int _ _) rfl) ?_
            refine s_run rfl rfl (r_mv (v := .slice _ _ _) rfl) ?_
            refine s_run rfl rfl (r_len rfl Try.underlying25) ?_
            refine s_run rfl rfl (r_cv rfl (by kernel_rfl) Try.underlying22 (wU (by omega))) ?_
            refine s_run rfl rfl (r_gtrF rfl rfl (by omega)) ?_
            refine k_nil ?_
            refine c_norm ?_
            refine k_f rfl ?_
            refine k_skip ?_
            refine c_norm ?_
            refine k_seq ?_
            refine k_rg ?_
            refine s_run rfl rfl (r_mv (v := .slice _ _ _) rfl) ?_
            refine s_run rfl rfl (r_mv (v := .int _ _) rfl) ?_
            refine s_apz (enc := (Value.int .u64)) (z := 0) (l := zz) H 0 rfl rfl rfl rfl (by omega) (by omega) Try.underlying25 Try.underlying22 inf22 rfl ?_
            intro _ _ _ H'; simp only [List.set_cons_zero, List.set_cons_succ, List.take_succ_cons, List.take_zero, List.drop_succ_cons, List.drop_zero, List.cons_append, List.nil_append, List.append_nil, List.length_cons, List.length_nil, Nat.reduceAdd] at H'; clear H; have H := H'; clear H'
            refine s_run rfl rfl (r_as (v := .slice _ _ _) rfl) ?_
            refine k_nil ?_
            refine c_norm ?_
            refine k_seq ?_
            refine k_seq ?_
            refine k_rg ?_
            refine s_run rfl rfl (r_mv (v := .slice _ _ _) rfl) ?_
            refine s_run rfl rfl (r_mv (v := .int _ _) rfl) ?_
            refine s_run rfl rfl (r_shi (j := mm) rfl rfl rfl (by omega) Try.underlying25 sz22) ?_
            refine s_run rfl rfl (r_len rfl Try.underlying25) ?_
            refine s_run rfl rfl (r_mv (v := .int _ _) rfl) ?_
            refine k_nil ?_
            refine c_norm ?_
            refine k_b ?_
            refine k_loop (fun z f W => ∃ (k : Nat) (A3 : Option Addr) (c3 : Nat), k ≤ mm ∧ z = mm - k ∧ Im.noZero (t.take k) = true ∧ f 0 = .slice (some ⟨b, o2, none⟩) t.length (c - 2) ∧ f 1 = .int .i64 N ∧ f 6 = .slice A3 (out.length + zz + k) c3 ∧ f 8 = .int .u64 mm ∧ f 78 = .slice (some ⟨b, o2, none⟩) mm (c - 2) ∧ f 79 = .int .i64 mm ∧ f 80 = .int .i64 k ∧ Heap w [] [ownN 1 (.slice A3 (out.length + zz + k) c3) (out.length + zz + k) ((out ++ List.replicate zz 0 ++ t.take k).map (Value.int .u64)) 22] W) mm ⟨0, _, _, by omega, rfl, rfl, rfl, rfl, rfl, rfl, rfl, rfl, rfl, by simpa using H⟩ ?_
            clear H
            rintro z f W ⟨k, A3, c3, hk, rfl, hnz, f0, f1, f6, f8, f78, f79, f80, H⟩
            obtain ⟨f, rfl⟩ := lv7 f0 f1 f6 f8 f78 f79 f80
            clear f0 f1 f6 f8 f78 f79 f80
            by_cases hkm : k < mm
            · obtain ⟨x, hx⟩ : ∃ x, t[k]? = some x := ⟨_, List.getElem?_eq_getElem (by omega)⟩
              have hcx := hr2 k x hx
              by_cases hx0 : x = 0
              · subst hx0
                rw [if_neg (noZero_no t k mm hx hkm)] at hR
                subst hR
                refine k_seq ?_
                refine k_rg ?_
                refine s_run rfl rfl (r_lssT rfl rfl (by omega)) ?_
                refine k_nil ?_
                refine c_norm ?_
                refine k_seq ?_
                refine k_t rfl ?_
                refine k_skip ?_
                refine c_norm ?_
                refine k_seq ?_
                refine k_b ?_
                refine k_seq ?_
                refine k_rg ?_
                refine s_run rfl rfl (r_ix1o rfl rfl rfl (by omega) Try.underlying25 sz22) ?_
                refine s_run rfl rfl (r_lr H (i := o2 + k) rfl hcx (by simp) ag22) ?_
                refine s_run rfl rfl (r_as (v := .int _ _) rfl) ?_
                refine k_nil ?_
                refine c_norm ?_
                refine k_seq ?_
                refine k_seq ?_
                refine k_rg ?_
                refine s_run rfl rfl (r_mv (v := .int _ _) rfl) ?_
                refine s_run rfl rfl (r_eqlT rfl rfl (by omega)) ?_
                refine k_nil ?_
                refine c_norm ?_
                refine k_t rfl ?_
                refine k_seq ?_
                refine k_rg ?_
                refine s_run rfl rfl (r_as (v := .slice _ _ _) rfl) ?_
                refine s_run rfl rfl (r_as (v := .int _ _) rfl) ?_
                refine k_nil ?_
                refine c_norm ?_
                refine k_ret ?_
                refine c_ret ?_
                refine b_ret ?_
                refine c_ret ?_
                refine c_ret ?_
                refine b_ret ?_
                refine c_ret ?_
                refine b_ret ?_
                refine c_ret ?_
                refine b_ret ?_
                refine c_ret ?_
                refine fin2r (v := .slice _ _ _) (v2 := .int _ _) rfl rfl rfl ?_
                exact RdPost.err H _
              · refine k_seq ?_
                refine k_rg ?_
                refine s_run rfl rfl (r_lssT rfl rfl (by omega)) ?_
                refine k_nil ?_
                refine c_norm ?_
                refine k_seq ?_
                refine k_t rfl ?_
                refine k_skip ?_
                refine c_norm ?_
                refine k_seq ?_
                refine k_b ?_
                refine k_seq ?_
                refine k_rg ?_
                refine s_run rfl rfl (r_ix1o rfl rfl rfl (by omega) Try.underlying25 sz22) ?_
                refine s_run rfl rfl (r_lr H (i := o2 + k) rfl hcx (by simp) ag22) ?_
                refine s_run rfl rfl (r_as (v := .int _ _) rfl) ?_
                refine k_nil ?_
                refine c_norm ?_
                refine k_seq ?_
                refine k_seq ?_
                refine k_rg ?_
                refine s_run rfl rfl (r_mv (v := .int _ _) rfl) ?_
                refine s_run rfl rfl (r_eqlF rfl rfl (by omega)) ?_
                refine k_nil ?_
                refine c_norm ?_
                refine k_f rfl ?_
                refine k_skip ?_
                refine c_norm ?_
                refine k_rg ?_
                refine s_run rfl rfl (r_mv (v := .slice _ _ _) rfl) ?_
                refine s_run rfl rfl (r_mv (v := .int _ _) rfl) ?_
                refine s_app1 (enc := (Value.int .u64)) H 0 rfl rfl rfl rfl rfl rfl rfl (by omega) Try.underlying25 inf22 rfl ?_
                intro _ An cn _ H'; simp only [List.set_cons_zero, List.set_cons_succ, List.take_succ_cons, List.take_zero, List.drop_succ_cons, List.drop_zero, List.cons_append, List.nil_append, List.append_nil, List.length_cons, List.length_nil, Nat.reduceAdd] at H'; clear H; have H := H'; clear H'
                refine s_run rfl rfl (r_as (v := .slice _ _ _) rfl) ?_
                refine k_nil ?_
                refine b_norm ?_
                refine c_norm ?_
                refine k_rg ?_
                refine s_run rfl rfl (r_add rfl rfl (wI (by omega))) ?_
                refine s_run rfl rfl (r_mv (v := .int _ _) rfl) ?_
                refine k_nil ?_
                refine c_round ?_
                rw [List.append_assoc, take_snoc hx] at H
                refine ⟨_, _, ?_, rfl, k + 1, _, _, by omega, rfl, noZero_snoc t k x hx hnz hx0, rfl, rfl, rfl, rfl, rfl, rfl, rfl, H⟩
                omega
            · obtain rfl : k = mm := by omega
              rw [if_pos hnz] at hR
              obtain ⟨o3, ho3, hr3⟩ := reads_drop (c := c - 2) hr2 k (by omega) (by omega)
              have hol : (out ++ List.replicate zz 0 ++ t.take k).length = out.length + zz + k := by
                simp only [List.length_append, List.length_replicate, List.length_take]; omega
              refine k_seq ?_
              refine k_rg ?_
              refine s_run rfl rfl (r_lssF rfl rfl (by omega)) ?_
              refine k_nil ?_
              refine c_norm ?_
              refine k_seq ?_
              refine k_f rfl ?_
              refine k_exit ?_
              refine c_exit ?_
              refine c_exit ?_
              refine b_hit ?_
              refine c_norm ?_
              refine k_rg ?_
              refine s_run rfl rfl (r_mv (v := .slice _ _ _) rfl) ?_
              refine s_run rfl rfl (r_mv (v := .int _ _) rfl) ?_
              refine s_run rfl rfl (r_slo' (i := k) (o2 := o3) (l2 := (t.drop k).length) (c2 := c - 2 - k) rfl rfl rfl (by omega) ho3 (by rw [List.length_drop]) rfl Try.underlying25 sz22) ?_
              refine s_run rfl rfl (r_as (v := .slice _ _ _) rfl) ?_
              refine k_nil ?_
              refine b_norm ?_
              refine c_round ?_
              rw [← hol] at H
              refine ⟨fu, _, ?_, rfl, t.drop k, out ++ List.replicate zz 0 ++ t.take k, o3, c - 2 - k, A3, c3, by omega, by omega, hR, rfl, by rw [List.length_drop]; omega, by omega, by rw [List.length_drop]; omega, hUt.drop k, hr3, rfl, ?_, H⟩
              · omega
              · rw [hol]; rfl
  · rw [read_end fu wl N out (by omega)] at hR
    by_cases hw : wl.length > 0
    · rw [if_pos hw] at hR
      subst hR
      refine k_seq ?_
      refine k_seq ?_
      refine k_rg ?_
      refine s_run rfl rfl (r_mv (v := .slice _ _ _) rfl) ?_
      refine s_run rfl rfl (r_len rfl Try.underlying25) ?_
      refine s_run rfl rfl (r_mv (v := .int _ _) rfl) ?_
      refine s_run rfl rfl (r_lssF rfl rfl (by omega)) ?_
      refine k_nil ?_
      refine c_norm ?_
      refine k_f rfl ?_
      refine k_exit ?_
      refine c_exit ?_
      refine c_exit ?_
      refine b_hit ?_
      refine c_norm ?_
      refine k_seq ?_
      refine k_seq ?_
      refine k_rg ?_
      refine s_run rfl rfl (r_mv (v := .slice _ _ _) rfl) ?_
      refine s_run rfl rfl (r_len rfl Try.underlying25) ?_
      refine s_run rfl rfl (r_gtrT rfl rfl (by omega)) ?_
      refine k_nil ?_
      refine c_norm ?_
      refine k_t rfl ?_
      refine k_seq ?_
      refine k_rg ?_
      refine s_run rfl rfl (r_as (v := .slice _ _ _) rfl) ?_
      refine s_run rfl rfl (r_as (v := .int _ _) rfl) ?_
      refine k_nil ?_
      refine c_norm ?_
      refine k_ret ?_
      refine c_ret ?_
      refine fin2r (v := .slice _ _ _) (v2 := .int _ _) rfl rfl rfl ?_
      exact RdPost.err H _
    · rw [if_neg hw] at hR
      subst hR
      refine k_seq ?_
      refine k_seq ?_
      refine k_rg ?_
      refine s_run rfl rfl (r_mv (v := .slice _ _ _) rfl) ?_
      refine s_run rfl rfl (r_len rfl Try.underlying25) ?_
      refine s_run rfl rfl (r_mv (v := .int _ _) rfl) ?_
      refine s_run rfl rfl (r_lssF rfl rfl (by omega)) ?_
      refine k_nil ?_
      refine c_norm ?_
      refine k_f rfl ?_
      refine k_exit ?_
      refine c_exit ?_
      refine c_exit ?_
      refine b_hit ?_
      refine c_norm ?_
      refine k_seq ?_
      refine k_seq ?_
      refine k_rg ?_
      refine s_run rfl rfl (r_mv (v := .slice _ _ _) rfl) ?_
      refine s_run rfl rfl (r_len rfl Try.underlying25) ?_
      refine s_run rfl rfl (r_gtrF rfl rfl (by omega)) ?_
      refine k_nil ?_
      refine c_norm ?_
      refine k_f rfl ?_
      refine k_skip ?_
      refine c_norm ?_
      refine k_seq ?_
      refine k_rg ?_
      refine s_run rfl rfl (r_mv (v := .slice _ _ _) rfl) ?_
      refine s_run rfl rfl (r_as (v := .slice _ _ _) rfl) ?_
      refine s_run rfl rfl (r_as (v := .int _ _) rfl) ?_
      refine k_nil ?_
      refine c_norm ?_
      refine k_ret ?_
      refine fin2r (v := .slice _ _ _) (v2 := .int _ _) rfl rfl rfl ?_
      exact ⟨A2, c2, rfl, H⟩
end Go.Proofs.Ytmekhdclnhhhbaa
end

section
namespace Go.Proofs.Ytmekhdclnhhhbaa
open Go.RowKit
set_option linter.unusedSimpArgs false
set_option linter.unusedVariables false
theorem Reads.sees {α : Type} {enc : α → Value} {W : World} {b o : Nat} {xs : List α} (h : Reads enc W b o xs) : Sees enc W [] (some ⟨b, o, none⟩) xs := fun _ => ⟨b, o, rfl, by simp, h⟩
theorem Gives.vec {k : IntKind} {T : TypeId} {xs : List Int} {w w' : World} {e : Ending} (h : Gives k T xs w e w') (h0 : 0 < xs.length) :
    ∃ b c, e = .returned (.slice (some ⟨b, 0, none⟩) xs.length c) ∧ xs.length ≤ c ∧ c ≤ maxLen ∧ Heap w [] [vec (Value.int k) b xs T] w' := by
  obtain ⟨A, c, rfl, H⟩ := h
  obtain ⟨b, c2, he, h1, h2, H2⟩ := own_vec H h0
  exact ⟨b, c2, congrArg _ he, h1, h2, H2⟩
def LdPost (R : List Int × Int) (w : World) (e : Ending) (w' : World) : Prop :=
  (R.2 ≠ 0 ∧ e = .returned (.tuple #[.pointer none, .int .i64 R.2]) ∧ Only [] w w') ∨
  (R.2 = 0 ∧ ∃ g, e = .returned (.tuple #[ptr g.p, .int .i64 0]) ∧ GOk g (R.1.length / 8) ∧ Heap w [] (devL g (Nv.load R.1 (R.1.length / 8))) w')
/-- the words of the bytes, and what Load asks of them -/
theorem load_words (xs : List Int) (hU : By.IsBytes xs) (h : ¬ (xs.length < 24 ∨ xs.length % 8 ≠ 0)) :
    ∃ (W : List Int) (x0 x1 xl : Int), By.words xs = W ∧ W.length = xs.length / 8 ∧ Im.U W ∧ W[0]? = some x0 ∧ W[1]? = some x1 ∧ W[W.length - 1]? = some xl ∧
      Im.load xs = (if x0 ≠ 13905993476890996 then ([], 24) else if xl ≠ Im.sum (W.take (W.length - 1)) then ([], 25) else if x1 > 131072 ∨ x1 % 8 ≠ 0 then ([], 26) else Im.read (x1.toNat + 1) ((W.take (W.length - 1)).drop 2) x1 []) := by
  have hl : (By.words xs).length = xs.length / 8 := by rw [By.words_len]; omega
  have h0 : (By.words xs)[0]? = some ((By.words xs).getD 0 0) := by rw [List.getD_eq_getElem?_getD, List.getElem?_eq_getElem (by omega)]; rfl
  have h1 : (By.words xs)[1]? = some ((By.words xs).getD 1 0) := by rw [List.getD_eq_getElem?_getD, List.getElem?_eq_getElem (by omega)]; rfl
  have h2 : (By.words xs)[(By.words xs).length - 1]? = some ((By.words xs).getD ((By.words xs).length - 1) 0) := by rw [List.getD_eq_getElem?_getD, List.getElem?_eq_getElem (by omega)]; rfl
  refine ⟨By.words xs, _, _, _, rfl, hl, By.words_wf xs hU, h0, h1, h2, ?_⟩
  unfold Im.load
  rw [if_neg h]
  rfl
theorem hfin {w W W' : World} {L : List Ent} {g : Geo} {d : Nv.D} (H : Heap w [] L W) (H' : Heap W [] (devL g d) W') : Heap w [] (devL g d) W' := (H.more H').drops
theorem iLoad (A : Option Addr) (n c : Nat) (xs : List Int) (w : World) (hz : Sees (Value.int .u8) w [] A xs) (hl : xs.length = n) (hU : By.IsBytes xs) (hn : n ≤ 1000000) :
    Calls Try.prog 45 [.slice A n c].toArray w (LdPost (Im.load xs) w) := by
  have H := Heap.nil w
  by_cases hbad : xs.length < 24 ∨ xs.length % 8 ≠ 0
  · have e : Im.load xs = ([], 31) := by unfold Im.load; rw [if_pos hbad]
    rw [e]
    by_cases h8 : n % 8 = 0
    · refine k_in (N := 69) Try.func45 rfl rfl rfl ?_
      refine k_seq ?_
      refine k_rg ?_
      refine s_run rfl rfl (r_as (v := .pointer _) rfl) ?_
      refine s_run rfl rfl (r_as (v := .int _ _) rfl) ?_
      refine k_nil ?_
      refine c_norm ?_
      refine k_seq ?_
      refine k_seq ?_
      refine k_rg ?_
      refine s_run rfl rfl (r_mv (v := .slice _ _ _) rfl) ?_
      refine s_run rfl rfl (r_len rfl Try.underlying49) ?_
      refine s_run rfl rfl (r_rem rfl rfl (by omega)) ?_
      refine s_run rfl rfl (r_neqF rfl rfl (by omega)) ?_
      refine s_run rfl rfl (r_mv (v := .bool _) rfl) ?_
      refine s_run rfl (g_on 13 (by kernel_rfl) rfl) (r_mv (v := .slice _ _ _) rfl) ?_
      refine s_run rfl (g_on 13 (by kernel_rfl) rfl) (r_len rfl Try.underlying49) ?_
      refine s_run rfl (g_on 13 (by kernel_rfl) rfl) (r_lssT rfl rfl (by omega)) ?_
      refine s_run rfl rfl (r_pkF (v := .bool _) rfl rfl) ?_
      refine k_nil ?_
      refine c_norm ?_
      refine k_t rfl ?_
      refine k_seq ?_
      refine k_rg ?_
      refine s_run rfl rfl (r_as (v := .pointer _) rfl) ?_
      refine s_run rfl rfl (r_as (v := .int _ _) rfl) ?_
      refine k_nil ?_
      refine c_norm ?_
      refine k_ret ?_
      refine c_ret ?_
      refine fin2r (v := .pointer _) (v2 := .int _ _) rfl rfl rfl ?_
      exact .inl ⟨by decide, rfl, H.only⟩
    · refine k_in (N := 69) Try.func45 rfl rfl rfl ?_
      refine k_seq ?_
      refine k_rg ?_
      refine s_run rfl rfl (r_as (v := .pointer _) rfl) ?_
      refine s_run rfl rfl (r_as (v := .int _ _) rfl) ?_
      refine k_nil ?_
      refine c_norm ?_
      refine k_seq ?_
      refine k_seq ?_
      refine k_rg ?_
      refine s_run rfl rfl (r_mv (v := .slice _ _ _) rfl) ?_
      refine s_run rfl rfl (r_len rfl Try.underlying49) ?_
      refine s_run rfl rfl (r_rem rfl rfl (by omega)) ?_
      refine s_run rfl rfl (r_neqT rfl rfl (by omega)) ?_
      refine s_run rfl rfl (r_mv (v := .bool _) rfl) ?_
      refine s_off rfl (g_off 13 (by kernel_rfl) rfl rfl) ?_
      refine s_off rfl (g_off 13 (by kernel_rfl) rfl rfl) ?_
      refine s_off rfl (g_off 13 (by kernel_rfl) rfl rfl) ?_
      refine s_run rfl rfl (r_pkT (v := .bool _) rfl rfl) ?_
      refine k_nil ?_
      refine c_norm ?_
      refine k_t rfl ?_
      refine k_seq ?_
      refine k_rg ?_
      refine s_run rfl rfl (r_as (v := .pointer _) rfl) ?_
      refine s_run rfl rfl (r_as (v := .int _ _) rfl) ?_
      refine k_nil ?_
      refine c_norm ?_
      refine k_ret ?_
      refine c_ret ?_
      refine fin2r (v := .pointer _) (v2 := .int _ _) rfl rfl rfl ?_
      exact .inl ⟨by decide, rfl, H.only⟩
  · obtain ⟨W0, x0, x1, xl, hW, hWl, hWU, hx0, hx1, hxl, hld⟩ := load_words xs hU hbad
    have hx1b := hWU x1 (List.mem_of_getElem? hx1)
    have hsv := Im.save_load (R := (Im.load xs).1) hU
    have hWd := fun w hz => (cWordsOf A n c xs w hz hl hU hn).mono (fun e w' h => h.vec (by rw [hW]; omega))
    rw [hW] at hWd
    generalize hR : Im.load xs = R at *
    have hq2 : (W0.take (W0.length - 1)).length = W0.length - 1 := by rw [List.length_take]; omega
    refine k_in (N := 69) Try.func45 rfl rfl rfl ?_
    refine k_seq ?_
    refine k_rg ?_
    refine s_run rfl rfl (r_as (v := .pointer _) rfl) ?_
    refine s_run rfl rfl (r_as (v := .int _ _) rfl) ?_
    refine k_nil ?_
    refine c_norm ?_
    refine k_seq ?_
    refine k_seq ?_
    refine k_rg ?_
    refine s_run rfl rfl (r_mv (v := .slice _ _ _) rfl) ?_
    refine s_run rfl rfl (r_len rfl Try.underlying49) ?_
    refine s_run rfl rfl (r_rem rfl rfl (by omega)) ?_
    refine s_run rfl rfl (r_neqF rfl rfl (by omega)) ?_
    refine s_run rfl rfl (r_mv (v := .bool _) rfl) ?_
    refine s_run rfl (g_on 13 (by kernel_rfl) rfl) (r_mv (v := .slice _ _ _) rfl) ?_
    refine s_run rfl (g_on 13 (by kernel_rfl) rfl) (r_len rfl Try.underlying49) ?_
    refine s_run rfl (g_on 13 (by kernel_rfl) rfl) (r_lssF rfl rfl (by omega)) ?_
    refine s_run rfl rfl (r_pkF (v := .bool _) rfl rfl) ?_
    refine k_nil ?_
    refine c_norm ?_
    refine k_f rfl ?_
    refine k_skip ?_
    refine c_norm ?_
    refine k_seq ?_
    refine k_rg ?_
    refine s_run rfl rfl (r_mv (v := .slice _ _ _) rfl) ?_
    refine s_call rfl (hWd _ (hz.later H.only (by simp))) (ca81 rfl) ?_
    rintro e W1 ⟨b, cb, rfl, hcb, hcm, H'⟩
    refine ⟨_, rfl, ?_⟩
    have H := H.more (A := [_]) H'; clear H'; simp only [List.cons_append, List.nil_append] at H
    refine s_run rfl rfl (r_as (v := .slice _ _ _) rfl) ?_
    refine k_nil ?_
    refine c_norm ?_
    refine k_seq ?_
    unfold maxLen at hcm
    have hsum := Im.sum_bd (W0.take (W0.length - 1))
    by_cases c0 : x0 = 13905993476890996
    · rw [if_neg (by simpa using c0)] at hld
      subst c0
      by_cases c1 : xl = Im.sum (W0.take (W0.length - 1))
      · rw [if_neg (by simpa using c1)] at hld
        by_cases c2 : x1 > 131072 ∨ x1 % 8 ≠ 0
        · rw [if_pos c2] at hld
          subst hld
          by_cases c3 : x1 > 131072
          · refine k_q mixed (by kernel_rfl) H ?_
            refine q_run rfl rfl (fun _ H => r_mv (v := .slice _ _ _) rfl) ?_
            refine q_run rfl rfl (fun _ H => r_mv (v := .slice _ _ _) rfl) ?_
            refine q_run rfl rfl (fun _ H => r_len rfl Try.underlying25) ?_
            refine q_run rfl rfl (fun _ H => r_sub rfl rfl (wI (by omega))) ?_
            refine q_run rfl rfl (fun _ H => r_shi (j := W0.length - 1) rfl rfl (by omega) (by omega) Try.underlying25 sz22) ?_
            refine q_run rfl rfl (fun _ H => r_mv (v := .slice _ _ _) rfl) ?_
            refine q_run rfl rfl (fun _ H => r_mv (v := .slice _ _ _) rfl) ?_
            refine q_run rfl rfl (fun _ H => r_len rfl Try.underlying25) ?_
            refine q_run rfl rfl (fun _ H => r_sub rfl rfl (wI (by omega))) ?_
            refine q_run rfl rfl (fun _ H => r_ix1 (i := W0.length - 1) rfl rfl (by omega) (by omega) Try.underlying25 sz22) ?_
            refine q_run rfl rfl (fun _ H => r_lv H 0 rfl rfl hxl ag22) ?_
            refine q_run rfl rfl (fun _ H => r_as (v := .slice _ _ _) rfl) ?_
            refine q_run rfl rfl (fun _ H => r_as (v := .int _ _) rfl) ?_
            refine q_nil ?_
            intro _ H'; clear H; have H := H'; clear H'
            refine c_norm ?_
            refine k_seq ?_
            refine k_b ?_
            refine k_seq ?_
            refine k_rg ?_
            refine s_run rfl rfl (r_mv (v := .slice _ _ _) rfl) ?_
            refine s_run rfl rfl (r_ix1 (i := 0) rfl rfl (by omega) (by omega) Try.underlying25 sz22) ?_
            refine s_run rfl rfl (r_lv H 0 rfl rfl hx0 ag22) ?_
            refine s_run rfl rfl (r_neqF rfl rfl (by omega)) ?_
            refine s_run rfl rfl (r_as (v := .bool _) rfl) ?_
            refine k_nil ?_
            refine c_norm ?_
            refine k_f rfl ?_
            refine k_seq ?_
            refine k_rg ?_
            refine s_run rfl rfl (r_mv (v := .int _ _) rfl) ?_
            refine s_run rfl rfl (r_mv (v := .slice _ _ _) rfl) ?_
            refine s_call rfl (cWords _ _ _ (W0.take (W0.length - 1)) _ (((by simpa using H.reads 0 rfl 0 (W0.length - 1) : Reads (Value.int .u64) _ b 0 (W0.take (W0.length - 1)))).sees) hq2 (hWU.take _) (by omega)) (ca82 rfl) ?_
            rintro e W1 ⟨rfl, H'⟩
            refine ⟨_, rfl, ?_⟩
            have H := H.same H'; clear H'
            refine s_run rfl rfl (r_cv rfl (by kernel_rfl) Try.underlying22 (wU (by omega))) ?_
            refine s_run rfl rfl (r_neqF rfl rfl (by omega)) ?_
            refine s_run rfl rfl (r_as (v := .bool _) rfl) ?_
            refine k_nil ?_
            refine c_norm ?_
            refine k_f rfl ?_
            refine k_seq ?_
            refine k_rg ?_
            refine s_run rfl rfl (r_mv (v := .slice _ _ _) rfl) ?_
            refine s_run rfl rfl (r_ix1 (i := 1) rfl rfl (by omega) (by omega) Try.underlying25 sz22) ?_
            refine s_run rfl rfl (r_lv H 0 rfl rfl hx1 ag22) ?_
            refine s_run rfl rfl (r_gtrT rfl rfl (by omega)) ?_
            refine s_run rfl rfl (r_mv (v := .bool _) rfl) ?_
            refine s_off rfl (g_off 47 (by kernel_rfl) rfl rfl) ?_
            refine s_off rfl (g_off 47 (by kernel_rfl) rfl rfl) ?_
            refine s_off rfl (g_off 47 (by kernel_rfl) rfl rfl) ?_
            refine s_off rfl (g_off 47 (by kernel_rfl) rfl rfl) ?_
            refine s_off rfl (g_off 47 (by kernel_rfl) rfl rfl) ?_
            refine s_run rfl rfl (r_pkT (v := .bool _) rfl rfl) ?_
            refine s_run rfl rfl (r_as (v := .bool _) rfl) ?_
            refine k_nil ?_
            refine c_norm ?_
            refine k_t rfl ?_
            refine k_seq ?_
            refine k_rg ?_
            refine s_run rfl rfl (r_as (v := .pointer _) rfl) ?_
            refine s_run rfl rfl (r_as (v := .int _ _) rfl) ?_
            refine k_nil ?_
            refine c_norm ?_
            refine k_ret ?_
            refine b_ret ?_
            refine c_ret ?_
            refine fin2r (v := .pointer _) (v2 := .int _ _) rfl rfl rfl ?_
            exact .inl ⟨by decide, rfl, H.only⟩
          · refine k_q mixed (by kernel_rfl) H ?_
            refine q_run rfl rfl (fun _ H => r_mv (v := .slice _ _ _) rfl) ?_
            refine q_run rfl rfl (fun _ H => r_mv (v := .slice _ _ _) rfl) ?_
            refine q_run rfl rfl (fun _ H => r_len rfl Try.underlying25) ?_
            refine q_run rfl rfl (fun _ H => r_sub rfl rfl (wI (by omega))) ?_
            refine q_run rfl rfl (fun _ H => r_shi (j := W0.length - 1) rfl rfl (by omega) (by omega) Try.underlying25 sz22) ?_
            refine q_run rfl rfl (fun _ H => r_mv (v := .slice _ _ _) rfl) ?_
            refine q_run rfl rfl (fun _ H => r_mv (v := .slice _ _ _) rfl) ?_
            refine q_run rfl rfl (fun _ H => r_len rfl Try.underlying25) ?_
            refine q_run rfl rfl (fun _ H => r_sub rfl rfl (wI (by omega))) ?_
            refine q_run rfl rfl (fun _ H => r_ix1 (i := W0.length - 1) rfl rfl (by omega) (by omega) Try.underlying25 sz22) ?_
            refine q_run rfl rfl (fun _ H => r_lv H 0 rfl rfl hxl ag22) ?_
            refine q_run rfl rfl (fun _ H => r_as (v := .slice _ _ _) rfl) ?_
            refine q_run rfl rfl (fun _ H => r_as (v := .int _ _) rfl) ?_
            refine q_nil ?_
            intro _ H'; clear H; have H := H'; clear H'
            refine c_norm ?_
            refine k_seq ?_
            refine k_b ?_
            refine k_seq ?_
            refine k_rg ?_
            refine s_run rfl rfl (r_mv (v := .slice _ _ _) rfl) ?_
            refine s_run rfl rfl (r_ix1 (i := 0) rfl rfl (by omega) (by omega) Try.underlying25 sz22) ?_
            refine s_run rfl rfl (r_lv H 0 rfl rfl hx0 ag22) ?_
            refine s_run rfl rfl (r_neqF rfl rfl (by omega)) ?_
            refine s_run rfl rfl (r_as (v := .bool _) rfl) ?_
            refine k_nil ?_
            refine c_norm ?_
            refine k_f rfl ?_
            refine k_seq ?_
            refine k_rg ?_
            refine s_run rfl rfl (r_mv (v := .int _ _) rfl) ?_
            refine s_run rfl rfl (r_mv (v := .slice _ _ _) rfl) ?_
            refine s_call rfl (cWords _ _ _ (W0.take (W0.length - 1)) _ (((by simpa using H.reads 0 rfl 0 (W0.length - 1) : Reads (Value.int .u64) _ b 0 (W0.take (W0.length - 1)))).sees) hq2 (hWU.take _) (by omega)) (ca82 rfl) ?_
            rintro e W1 ⟨rfl, H'⟩
            refine ⟨_, rfl, ?_⟩
            have H := H.same H'; clear H'
            refine s_run rfl rfl (r_cv rfl (by kernel_rfl) Try.underlying22 (wU (by omega))) ?_
            refine s_run rfl rfl (r_neqF rfl rfl (by omega)) ?_
            refine s_run rfl rfl (r_as (v := .bool _) rfl) ?_
            refine k_nil ?_
            refine c_norm ?_
            refine k_f rfl ?_
            refine k_seq ?_
            refine k_rg ?_
            refine s_run rfl rfl (r_mv (v := .slice _ _ _) rfl) ?_
            refine s_run rfl rfl (r_ix1 (i := 1) rfl rfl (by omega) (by omega) Try.underlying25 sz22) ?_
            refine s_run rfl rfl (r_lv H 0 rfl rfl hx1 ag22) ?_
            refine s_run rfl rfl (r_gtrF rfl rfl (by omega)) ?_
            refine s_run rfl rfl (r_mv (v := .bool _) rfl) ?_
            refine s_run rfl (g_on 47 (by kernel_rfl) rfl) (r_mv (v := .slice _ _ _) rfl) ?_
            refine s_run rfl (g_on 47 (by kernel_rfl) rfl) (r_ix1 (i := 1) rfl rfl (by omega) (by omega) Try.underlying25 sz22) ?_
            refine s_run rfl (g_on 47 (by kernel_rfl) rfl) (r_lv H 0 rfl rfl hx1 ag22) ?_
            refine s_run rfl (g_on 47 (by kernel_rfl) rfl) (r_rem rfl rfl (by omega)) ?_
            refine s_run rfl (g_on 47 (by kernel_rfl) rfl) (r_neqT rfl rfl (by omega)) ?_
            refine s_run rfl rfl (r_pkF (v := .bool _) rfl rfl) ?_
            refine s_run rfl rfl (r_as (v := .bool _) rfl) ?_
            refine k_nil ?_
            refine c_norm ?_
            refine k_t rfl ?_
            refine k_seq ?_
            refine k_rg ?_
            refine s_run rfl rfl (r_as (v := .pointer _) rfl) ?_
            refine s_run rfl rfl (r_as (v := .int _ _) rfl) ?_
            refine k_nil ?_
            refine c_norm ?_
            refine k_ret ?_
            refine b_ret ?_
            refine c_ret ?_
            refine fin2r (v := .pointer _) (v2 := .int _ _) rfl rfl rfl ?_
            exact .inl ⟨by decide, rfl, H.only⟩
        · rw [if_neg c2] at hld
          obtain ⟨N, rfl⟩ := Int.eq_ofNat_of_zero_le hx1b.1
          rw [Int.toNat_natCast] at hld
          obtain ⟨o2, ho2, hr2⟩ : ∃ o2, (if cb = 2 then (⟨b, 0, none⟩ : Addr) else ⟨b, 0 + 2 * 1, none⟩) = ⟨b, o2, none⟩ ∧ ∀ W, Reads (Value.int .u64) W b 0 (W0.take (W0.length - 1)) → Reads (Value.int .u64) W b o2 ((W0.take (W0.length - 1)).drop 2) := by
            refine ⟨2, by rw [if_neg (by omega)], fun W hr => ?_⟩
            obtain ⟨o2, h1, h2⟩ := reads_drop (c := cb) hr 2 (by omega) (by omega)
            rw [if_neg (by omega)] at h1
            injection h1 with _ h1
            rw [← h1] at h2
            simpa using h2
          have hdl : ((W0.take (W0.length - 1)).drop 2).length = W0.length - 1 - 2 := by rw [List.length_drop, hq2]
          have hRd := fun W hr => iRead b o2 (cb - 2) N ((W0.take (W0.length - 1)).drop 2) W hr (by omega) (by omega) ((hWU.take _).drop _) (by omega)
          rw [← hld, hdl] at hRd
          clear hld
          by_cases c4 : R.2 = 0
          · obtain ⟨hs1, hs2, hs3, hs4⟩ := hsv (Prod.ext rfl c4)
            have hL : ∀ A c W, Sees (Value.int .u64) W [] A R.1 → Calls Try.prog 16 [.slice A R.1.length c].toArray W fun e w' => ∃ g, e = .returned (ptr g.p) ∧ GOk g (R.1.length / 8) ∧ Heap W [] (devL g (Nv.load R.1 (R.1.length / 8))) w' := by
              intro A c W hz
              have h := nLoad A R.1.length c R.1 W hz rfl (by omega)
              rw [show (R.1.length + 7) / 8 = R.1.length / 8 by omega, show 8 * (R.1.length / 8) - R.1.length = 0 by omega, List.replicate_zero, List.append_nil] at h
              exact h
            refine k_q mixed (by kernel_rfl) H ?_
            refine q_run rfl rfl (fun _ H => r_mv (v := .slice _ _ _) rfl) ?_
            refine q_run rfl rfl (fun _ H => r_mv (v := .slice _ _ _) rfl) ?_
            refine q_run rfl rfl (fun _ H => r_len rfl Try.underlying25) ?_
            refine q_run rfl rfl (fun _ H => r_sub rfl rfl (wI (by omega))) ?_
            refine q_run rfl rfl (fun _ H => r_shi (j := W0.length - 1) rfl rfl (by omega) (by omega) Try.underlying25 sz22) ?_
            refine q_run rfl rfl (fun _ H => r_mv (v := .slice _ _ _) rfl) ?_
            refine q_run rfl rfl (fun _ H => r_mv (v := .slice _ _ _) rfl) ?_
            refine q_run rfl rfl (fun _ H => r_len rfl Try.underlying25) ?_
            refine q_run rfl rfl (fun _ H => r_sub rfl rfl (wI (by omega))) ?_
            refine q_run rfl rfl (fun _ H => r_ix1 (i := W0.length - 1) rfl rfl (by omega) (by omega) Try.underlying25 sz22) ?_
            refine q_run rfl rfl (fun _ H => r_lv H 0 rfl rfl hxl ag22) ?_
            refine q_run rfl rfl (fun _ H => r_as (v := .slice _ _ _) rfl) ?_
            refine q_run rfl rfl (fun _ H => r_as (v := .int _ _) rfl) ?_
            refine q_nil ?_
            intro _ H'; clear H; have H := H'; clear H'
            refine c_norm ?_
            refine k_seq ?_
            refine k_b ?_
            refine k_seq ?_
            refine k_rg ?_
            refine s_run rfl rfl (r_mv (v := .slice _ _ _) rfl) ?_
            refine s_run rfl rfl (r_ix1 (i := 0) rfl rfl (by omega) (by omega) Try.underlying25 sz22) ?_
            refine s_run rfl rfl (r_lv H 0 rfl rfl hx0 ag22) ?_
            refine s_run rfl rfl (r_neqF rfl rfl (by omega)) ?_
            refine s_run rfl rfl (r_as (v := .bool _) rfl) ?_
            refine k_nil ?_
            refine c_norm ?_
            refine k_f rfl ?_
            refine k_seq ?_
            refine k_rg ?_
            refine s_run rfl rfl (r_mv (v := .int _ _) rfl) ?_
            refine s_run rfl rfl (r_mv (v := .slice _ _ _) rfl) ?_
            refine s_call rfl (cWords _ _ _ (W0.take (W0.length - 1)) _ (((by simpa using H.reads 0 rfl 0 (W0.length - 1) : Reads (Value.int .u64) _ b 0 (W0.take (W0.length - 1)))).sees) hq2 (hWU.take _) (by omega)) (ca82 rfl) ?_
            rintro e W1 ⟨rfl, H'⟩
            refine ⟨_, rfl, ?_⟩
            have H := H.same H'; clear H'
            refine s_run rfl rfl (r_cv rfl (by kernel_rfl) Try.underlying22 (wU (by omega))) ?_
            refine s_run rfl rfl (r_neqF rfl rfl (by omega)) ?_
            refine s_run rfl rfl (r_as (v := .bool _) rfl) ?_
            refine k_nil ?_
            refine c_norm ?_
            refine k_f rfl ?_
            refine k_seq ?_
            refine k_rg ?_
            refine s_run rfl rfl (r_mv (v := .slice _ _ _) rfl) ?_
            refine s_run rfl rfl (r_ix1 (i := 1) rfl rfl (by omega) (by omega) Try.underlying25 sz22) ?_
            refine s_run rfl rfl (r_lv H 0 rfl rfl hx1 ag22) ?_
            refine s_run rfl rfl (r_gtrF rfl rfl (by omega)) ?_
            refine s_run rfl rfl (r_mv (v := .bool _) rfl) ?_
            refine s_run rfl (g_on 47 (by kernel_rfl) rfl) (r_mv (v := .slice _ _ _) rfl) ?_
            refine s_run rfl (g_on 47 (by kernel_rfl) rfl) (r_ix1 (i := 1) rfl rfl (by omega) (by omega) Try.underlying25 sz22) ?_
            refine s_run rfl (g_on 47 (by kernel_rfl) rfl) (r_lv H 0 rfl rfl hx1 ag22) ?_
            refine s_run rfl (g_on 47 (by kernel_rfl) rfl) (r_rem rfl rfl (by omega)) ?_
            refine s_run rfl (g_on 47 (by kernel_rfl) rfl) (r_neqF rfl rfl (by omega)) ?_
            refine s_run rfl rfl (r_pkF (v := .bool _) rfl rfl) ?_
            refine s_run rfl rfl (r_as (v := .bool _) rfl) ?_
            refine k_nil ?_
            refine c_norm ?_
            refine k_f rfl ?_
            refine k_skip ?_
            refine b_norm ?_
            refine c_norm ?_
            refine k_seq ?_
            refine k_trF mixed ?_; have H' := H.drew; clear H; have H := H'; clear H'
            refine t_take 0 rfl (by kernel_rfl) (by kernel_rfl) (by kernel_rfl) rfl (fun _ _ _ _ h => h) rfl (fun _ hS => r_mv (v := .slice _ _ _) rfl) trivial ?_
            refine t_take 1 rfl (by kernel_rfl) (by kernel_rfl) (by kernel_rfl) rfl (fun _ _ _ _ h => h) rfl (fun _ hS => r_slo' (i := 2) (o2 := o2) (l2 := W0.length - 1 - 2) (c2 := cb - 2) rfl rfl rfl (by omega) ho2 (by omega) rfl Try.underlying25 sz22) trivial ?_
            refine t_take 2 rfl (by kernel_rfl) (by kernel_rfl) (by kernel_rfl) rfl (fun _ _ _ _ h => h) rfl (fun _ hS => r_mv (v := .slice _ _ _) rfl) trivial ?_
            refine t_take 3 rfl (by kernel_rfl) (by kernel_rfl) (by kernel_rfl) rfl (fun _ _ _ _ h => h) rfl (fun _ hS => r_ix1 (i := 1) rfl rfl (by omega) (by omega) Try.underlying25 sz22) trivial ?_
            refine t_up1 4 (by kernel_rfl) ?_
            refine up_mk rfl ?_
            refine s_run rfl rfl (r_lv H 0 rfl rfl hx1 ag22) ?_
            refine k_nil ?_
            refine t_on trivial ?_
            refine t_take 5 rfl (by kernel_rfl) (by kernel_rfl) (by kernel_rfl) rfl (fun _ _ _ _ h => h) rfl (fun _ hS => r_cv rfl (by kernel_rfl) Try.underlying3 (wI (by omega))) trivial ?_
            refine t_up1 6 (by kernel_rfl) ?_
            refine up_mk rfl ?_
            refine s_call rfl (hRd _ (hr2 _ ((by simpa using H.reads 0 rfl 0 (W0.length - 1) : Reads (Value.int .u64) _ b 0 (W0.take (W0.length - 1)))))) (ca83 rfl) ?_
            rintro e W1 ⟨A', c', rfl, H'⟩
            refine ⟨_, rfl, ?_⟩
            have H := H.more (A := [_]) H'; clear H'; simp only [List.cons_append, List.nil_append] at H
            refine k_nil ?_
            refine t_on trivial ?_
            refine t_take 7 rfl (by kernel_rfl) (by kernel_rfl) (by kernel_rfl) rfl (fun _ _ _ _ h => h) rfl (fun _ hS => r_mv (v := .tuple _) rfl) trivial ?_
            refine t_take 8 rfl (by kernel_rfl) (by kernel_rfl) (by kernel_rfl) rfl (fun _ _ _ _ h => h) rfl (fun _ hS => r_ext (v := .slice _ _ _) rfl rfl) trivial ?_
            refine t_take 9 rfl (by kernel_rfl) (by kernel_rfl) (by kernel_rfl) rfl (fun _ _ _ _ h => h) rfl (fun _ hS => r_ext (v := .int _ _) rfl rfl) trivial ?_
            refine t_take 10 rfl (by kernel_rfl) (by kernel_rfl) (by kernel_rfl) rfl (fun _ _ _ _ h => h) rfl (fun _ hS => r_as (v := .slice _ _ _) rfl) trivial ?_
            refine t_take 11 rfl (by kernel_rfl) (by kernel_rfl) (by kernel_rfl) rfl (fun _ _ _ _ h => h) rfl (fun _ hS => r_as (v := .int _ _) rfl) trivial ?_
            refine t_done (by kernel_rfl) ?_
            refine c_norm ?_
            refine k_seq ?_
            refine k_seq ?_
            refine k_rg ?_
            refine s_run rfl rfl (r_mv (v := .int _ _) rfl) ?_
            refine s_run rfl rfl (r_neqF rfl rfl (by omega)) ?_
            refine k_nil ?_
            refine c_norm ?_
            refine k_f rfl ?_
            refine k_skip ?_
            refine c_norm ?_
            refine k_seq ?_
            refine k_rg ?_
            refine s_run rfl rfl (r_mv (v := .slice _ _ _) rfl) ?_
            refine s_call rfl (hL _ _ _ (H.own_sees 0 rfl)) (ca16 rfl) ?_
            rintro e W1 ⟨g, rfl, hg, H'⟩
            refine ⟨_, rfl, ?_⟩
            skip
            refine s_run rfl rfl (r_as (v := .pointer _) rfl) ?_
            refine s_run rfl rfl (r_as (v := .int _ _) rfl) ?_
            refine k_nil ?_
            refine c_norm ?_
            refine k_ret ?_
            refine fin2r (v := .pointer _) (v2 := .int _ _) rfl rfl rfl ?_
            exact .inr ⟨c4, g, rfl, hg, hfin H H'⟩
          · refine k_q mixed (by kernel_rfl) H ?_
            refine q_run rfl rfl (fun _ H => r_mv (v := .slice _ _ _) rfl) ?_
            refine q_run rfl rfl (fun _ H => r_mv (v := .slice _ _ _) rfl) ?_
            refine q_run rfl rfl (fun _ H => r_len rfl Try.underlying25) ?_
            refine q_run rfl rfl (fun _ H => r_sub rfl rfl (wI (by omega))) ?_
            refine q_run rfl rfl (fun _ H => r_shi (j := W0.length - 1) rfl rfl (by omega) (by omega) Try.underlying25 sz22) ?_
            refine q_run rfl rfl (fun _ H => r_mv (v := .slice _ _ _) rfl) ?_
            refine q_run rfl rfl (fun _ H => r_mv (v := .slice _ _ _) rfl) ?_
            refine q_run rfl rfl (fun _ H => r_len rfl Try.underlying25) ?_
            refine q_run rfl rfl (fun _ H => r_sub rfl rfl (wI (by omega))) ?_
            refine q_run rfl rfl (fun _ H => r_ix1 (i := W0.length - 1) rfl rfl (by omega) (by omega) Try.underlying25 sz22) ?_
            refine q_run rfl rfl (fun _ H => r_lv H 0 rfl rfl hxl ag22) ?_
            refine q_run rfl rfl (fun _ H => r_as (v := .slice _ _ _) rfl) ?_
            refine q_run rfl rfl (fun _ H => r_as (v := .int _ _) rfl) ?_
            refine q_nil ?_
            intro _ H'; clear H; have H := H'; clear H'
            refine c_norm ?_
            refine k_seq ?_
            refine k_b ?_
            refine k_seq ?_
            refine k_rg ?_
            refine s_run rfl rfl (r_mv (v := .slice _ _ _) rfl) ?_
            refine s_run rfl rfl (r_ix1 (i := 0) rfl rfl (by omega) (by omega) Try.underlying25 sz22) ?_
            refine s_run rfl rfl (r_lv H 0 rfl rfl hx0 ag22) ?_
            refine s_run rfl rfl (r_neqF rfl rfl (by omega)) ?_
            refine s_run rfl rfl (r_as (v := .bool _) rfl) ?_
            refine k_nil ?_
            refine c_norm ?_
            refine k_f rfl ?_
            refine k_seq ?_
            refine k_rg ?_
            refine s_run rfl rfl (r_mv (v := .int _ _) rfl) ?_
            refine s_run rfl rfl (r_mv (v := .slice _ _ _) rfl) ?_
            refine s_call rfl (cWords _ _ _ (W0.take (W0.length - 1)) _ (((by simpa using H.reads 0 rfl 0 (W0.length - 1) : Reads (Value.int .u64) _ b 0 (W0.take (W0.length - 1)))).sees) hq2 (hWU.take _) (by omega)) (ca82 rfl) ?_
            rintro e W1 ⟨rfl, H'⟩
            refine ⟨_, rfl, ?_⟩
            have H := H.same H'; clear H'
            refine s_run rfl rfl (r_cv rfl (by kernel_rfl) Try.underlying22 (wU (by omega))) ?_
            refine s_run rfl rfl (r_neqF rfl rfl (by omega)) ?_
            refine s_run rfl rfl (r_as (v := .bool _) rfl) ?_
            refine k_nil ?_
            refine c_norm ?_
            refine k_f rfl ?_
            refine k_seq ?_
            refine k_rg ?_
            refine s_run rfl rfl (r_mv (v := .slice _ _ _) rfl) ?_
            refine s_run rfl rfl (r_ix1 (i := 1) rfl rfl (by omega) (by omega) Try.underlying25 sz22) ?_
            refine s_run rfl rfl (r_lv H 0 rfl rfl hx1 ag22) ?_
            refine s_run rfl rfl (r_gtrF rfl rfl (by omega)) ?_
            refine s_run rfl rfl (r_mv (v := .bool _) rfl) ?_
            refine s_run rfl (g_on 47 (by kernel_rfl) rfl) (r_mv (v := .slice _ _ _) rfl) ?_
            refine s_run rfl (g_on 47 (by kernel_rfl) rfl) (r_ix1 (i := 1) rfl rfl (by omega) (by omega) Try.underlying25 sz22) ?_
            refine s_run rfl (g_on 47 (by kernel_rfl) rfl) (r_lv H 0 rfl rfl hx1 ag22) ?_
            refine s_run rfl (g_on 47 (by kernel_rfl) rfl) (r_rem rfl rfl (by omega)) ?_
            refine s_run rfl (g_on 47 (by kernel_rfl) rfl) (r_neqF rfl rfl (by omega)) ?_
            refine s_run rfl rfl (r_pkF (v := .bool _) rfl rfl) ?_
            refine s_run rfl rfl (r_as (v := .bool _) rfl) ?_
            refine k_nil ?_
            refine c_norm ?_
            refine k_f rfl ?_
            refine k_skip ?_
            refine b_norm ?_
            refine c_norm ?_
            refine k_seq ?_
            refine k_trF mixed ?_; have H' := H.drew; clear H; have H := H'; clear H'
            refine t_take 0 rfl (by kernel_rfl) (by kernel_rfl) (by kernel_rfl) rfl (fun _ _ _ _ h => h) rfl (fun _ hS => r_mv (v := .slice _ _ _) rfl) trivial ?_
            refine t_take 1 rfl (by kernel_rfl) (by kernel_rfl) (by kernel_rfl) rfl (fun _ _ _ _ h => h) rfl (fun _ hS => r_slo' (i := 2) (o2 := o2) (l2 := W0.length - 1 - 2) (c2 := cb - 2) rfl rfl rfl (by omega) ho2 (by omega) rfl Try.underlying25 sz22) trivial ?_
            refine t_take 2 rfl (by kernel_rfl) (by kernel_rfl) (by kernel_rfl) rfl (fun _ _ _ _ h => h) rfl (fun _ hS => r_mv (v := .slice _ _ _) rfl) trivial ?_
            refine t_take 3 rfl (by kernel_rfl) (by kernel_rfl) (by kernel_rfl) rfl (fun _ _ _ _ h => h) rfl (fun _ hS => r_ix1 (i := 1) rfl rfl (by omega) (by omega) Try.underlying25 sz22) trivial ?_
            refine t_up1 4 (by kernel_rfl) ?_
            refine up_mk rfl ?_
            refine s_run rfl rfl (r_lv H 0 rfl rfl hx1 ag22) ?_
            refine k_nil ?_
            refine t_on trivial ?_
            refine t_take 5 rfl (by kernel_rfl) (by kernel_rfl) (by kernel_rfl) rfl (fun _ _ _ _ h => h) rfl (fun _ hS => r_cv rfl (by kernel_rfl) Try.underlying3 (wI (by omega))) trivial ?_
            refine t_up1 6 (by kernel_rfl) ?_
            refine up_mk rfl ?_
            refine s_call rfl (hRd _ (hr2 _ ((by simpa using H.reads 0 rfl 0 (W0.length - 1) : Reads (Value.int .u64) _ b 0 (W0.take (W0.length - 1)))))) (ca83 rfl) ?_
            rintro e W1 ⟨A', c', rfl, H'⟩
            refine ⟨_, rfl, ?_⟩
            have H := H.more (A := [_]) H'; clear H'; simp only [List.cons_append, List.nil_append] at H
            refine k_nil ?_
            refine t_on trivial ?_
            refine t_take 7 rfl (by kernel_rfl) (by kernel_rfl) (by kernel_rfl) rfl (fun _ _ _ _ h => h) rfl (fun _ hS => r_mv (v := .tuple _) rfl) trivial ?_
            refine t_take 8 rfl (by kernel_rfl) (by kernel_rfl) (by kernel_rfl) rfl (fun _ _ _ _ h => h) rfl (fun _ hS => r_ext (v := .slice _ _ _) rfl rfl) trivial ?_
            refine t_take 9 rfl (by kernel_rfl) (by kernel_rfl) (by kernel_rfl) rfl (fun _ _ _ _ h => h) rfl (fun _ hS => r_ext (v := .int _ _) rfl rfl) trivial ?_
            refine t_take 10 rfl (by kernel_rfl) (by kernel_rfl) (by kernel_rfl) rfl (fun _ _ _ _ h => h) rfl (fun _ hS => r_as (v := .slice _ _ _) rfl) trivial ?_
            refine t_take 11 rfl (by kernel_rfl) (by kernel_rfl) (by kernel_rfl) rfl (fun _ _ _ _ h => h) rfl (fun _ hS => r_as (v := .int _ _) rfl) trivial ?_
            refine t_done (by kernel_rfl) ?_
            refine c_norm ?_
            refine k_seq ?_
            refine k_seq ?_
            refine k_rg ?_
            refine s_run rfl rfl (r_mv (v := .int _ _) rfl) ?_
            refine s_run rfl rfl (r_neqT rfl rfl (by omega)) ?_
            refine k_nil ?_
            refine c_norm ?_
            refine k_t rfl ?_
            refine k_seq ?_
            refine k_rg ?_
            refine s_run rfl rfl (r_mv (v := .int _ _) rfl) ?_
            refine s_run rfl rfl (r_as (v := .pointer _) rfl) ?_
            refine s_run rfl rfl (r_as (v := .int _ _) rfl) ?_
            refine k_nil ?_
            refine c_norm ?_
            refine k_ret ?_
            refine c_ret ?_
            refine fin2r (v := .pointer _) (v2 := .int _ _) rfl rfl rfl ?_
            exact .inl ⟨c4, rfl, H.only⟩
      · rw [if_pos (by simpa using c1)] at hld
        subst hld
        refine k_q mixed (by kernel_rfl) H ?_
        refine q_run rfl rfl (fun _ H => r_mv (v := .slice _ _ _) rfl) ?_
        refine q_run rfl rfl (fun _ H => r_mv (v := .slice _ _ _) rfl) ?_
        refine q_run rfl rfl (fun _ H => r_len rfl Try.underlying25) ?_
        refine q_run rfl rfl (fun _ H => r_sub rfl rfl (wI (by omega))) ?_
        refine q_run rfl rfl (fun _ H => r_shi (j := W0.length - 1) rfl rfl (by omega) (by omega) Try.underlying25 sz22) ?_
        refine q_run rfl rfl (fun _ H => r_mv (v := .slice _ _ _) rfl) ?_
        refine q_run rfl rfl (fun _ H => r_mv (v := .slice _ _ _) rfl) ?_
        refine q_run rfl rfl (fun _ H => r_len rfl Try.underlying25) ?_
        refine q_run rfl rfl (fun _ H => r_sub rfl rfl (wI (by omega))) ?_
        refine q_run rfl rfl (fun _ H => r_ix1 (i := W0.length - 1) rfl rfl (by omega) (by omega) Try.underlying25 sz22) ?_
        refine q_run rfl rfl (fun _ H => r_lv H 0 rfl rfl hxl ag22) ?_
        refine q_run rfl rfl (fun _ H => r_as (v := .slice _ _ _) rfl) ?_
        refine q_run rfl rfl (fun _ H => r_as (v := .int _ _) rfl) ?_
        refine q_nil ?_
        intro _ H'; clear H; have H := H'; clear H'
        refine c_norm ?_
        refine k_seq ?_
        refine k_b ?_
        refine k_seq ?_
        refine k_rg ?_
        refine s_run rfl rfl (r_mv (v := .slice _ _ _) rfl) ?_
        refine s_run rfl rfl (r_ix1 (i := 0) rfl rfl (by omega) (by omega) Try.underlying25 sz22) ?_
        refine s_run rfl rfl (r_lv H 0 rfl rfl hx0 ag22) ?_
        refine s_run rfl rfl (r_neqF rfl rfl (by omega)) ?_
        refine s_run rfl rfl (r_as (v := .bool _) rfl) ?_
        refine k_nil ?_
        refine c_norm ?_
        refine k_f rfl ?_
        refine k_seq ?_
        refine k_rg ?_
        refine s_run rfl rfl (r_mv (v := .int _ _) rfl) ?_
        refine s_run rfl rfl (r_mv (v := .slice _ _ _) rfl) ?_
        refine s_call rfl (cWords _ _ _ (W0.take (W0.length - 1)) _ (((by simpa using H.reads 0 rfl 0 (W0.length - 1) : Reads (Value.int .u64) _ b 0 (W0.take (W0.length - 1)))).sees) hq2 (hWU.take _) (by omega)) (ca82 rfl) ?_
        rintro e W1 ⟨rfl, H'⟩
        refine ⟨_, rfl, ?_⟩
        have H := H.same H'; clear H'
        refine s_run rfl rfl (r_cv rfl (by kernel_rfl) Try.underlying22 (wU (by omega))) ?_
        refine s_run rfl rfl (r_neqT rfl rfl (by omega)) ?_
        refine s_run rfl rfl (r_as (v := .bool _) rfl) ?_
        refine k_nil ?_
        refine c_norm ?_
        refine k_t rfl ?_
        refine k_seq ?_
        refine k_rg ?_
        refine s_run rfl rfl (r_as (v := .pointer _) rfl) ?_
        refine s_run rfl rfl (r_as (v := .int _ _) rfl) ?_
        refine k_nil ?_
        refine c_norm ?_
        refine k_ret ?_
        refine b_ret ?_
        refine c_ret ?_
        refine fin2r (v := .pointer _) (v2 := .int _ _) rfl rfl rfl ?_
        exact .inl ⟨by decide, rfl, H.only⟩
    · rw [if_pos (by simpa using c0)] at hld
      subst hld
      refine k_q mixed (by kernel_rfl) H ?_
      refine q_run rfl rfl (fun _ H => r_mv (v := .slice _ _ _) rfl) ?_
      refine q_run rfl rfl (fun _ H => r_mv (v := .slice _ _ _) rfl) ?_
      refine q_run rfl rfl (fun _ H => r_len rfl Try.underlying25) ?_
      refine q_run rfl rfl (fun _ H => r_sub rfl rfl (wI (by omega))) ?_
      refine q_run rfl rfl (fun _ H => r_shi (j := W0.length - 1) rfl rfl (by omega) (by omega) Try.underlying25 sz22) ?_
      refine q_run rfl rfl (fun _ H => r_mv (v := .slice _ _ _) rfl) ?_
      refine q_run rfl rfl (fun _ H => r_mv (v := .slice _ _ _) rfl) ?_
      refine q_run rfl rfl (fun _ H => r_len rfl Try.underlying25) ?_
      refine q_run rfl rfl (fun _ H => r_sub rfl rfl (wI (by omega))) ?_
      refine q_run rfl rfl (fun _ H => r_ix1 (i := W0.length - 1) rfl rfl (by omega) (by omega) Try.underlying25 sz22) ?_
      refine q_run rfl rfl (fun _ H => r_lv H 0 rfl rfl hxl ag22) ?_
      refine q_run rfl rfl (fun _ H => r_as (v := .slice _ _ _) rfl) ?_
      refine q_run rfl rfl (fun _ H => r_as (v := .int _ _) rfl) ?_
      refine q_nil ?_
      intro _ H'; clear H; have H := H'; clear H'
      refine c_norm ?_
      refine k_seq ?_
      refine k_b ?_
      refine k_seq ?_
      refine k_rg ?_
      refine s_run rfl rfl (r_mv (v := .slice _ _ _) rfl) ?_
      refine s_run rfl rfl (r_ix1 (i := 0) rfl rfl (by omega) (by omega) Try.underlying25 sz22) ?_
      refine s_run rfl rfl (r_lv H 0 rfl rfl hx0 ag22) ?_
      refine s_run rfl rfl (r_neqT rfl rfl (by omega)) ?_
      refine s_run rfl rfl (r_as (v := .bool _) rfl) ?_
      refine k_nil ?_
      refine c_norm ?_
      refine k_t rfl ?_
      refine k_seq ?_
      refine k_rg ?_
      refine s_run rfl rfl (r_as (v := .pointer _) rfl) ?_
      refine s_run rfl rfl (r_as (v := .int _ _) rfl) ?_
      refine k_nil ?_
      refine c_norm ?_
      refine k_ret ?_
      refine b_ret ?_
      refine c_ret ?_
      refine fin2r (v := .pointer _) (v2 := .int _ _) rfl rfl rfl ?_
      exact .inl ⟨by decide, rfl, H.only⟩
end Go.Proofs.Ytmekhdclnhhhbaa
end

section
namespace Go.Proofs.Ytmekhdclnhhhbaa
open Go.RowKit
set_option linter.unusedSimpArgs false
set_option linter.unusedVariables false
end Go.Proofs.Ytmekhdclnhhhbaa
end

section
namespace Go.Proofs.Ytmekhdclnhhhbaa
open Go.RowKit
set_option linter.unusedSimpArgs false
set_option linter.unusedVariables false
theorem RefOk.at {w W : World} {L : List Ent} {F X : List Nat} {s : RefS} {d : Nv.D} {m : Nat} (hr : RefOk w (F ++ X) s d m) (H : Heap w F L W) : RefOk W ((F ++ X) ++ ids L) s d m :=
  (hr.news (G := (F ++ X) ++ ids L) (fun i hi => by
    rcases List.mem_append.1 hi with h | h
    · exact .inl h
    · rcases H.own i h with h | h
      · exact .inl (List.mem_append_left _ h)
      · exact .inr h)).later H.only (fun _ h => List.mem_append_left _ (List.mem_append_left _ h))
theorem Heap.fl {w W : World} {L : List Ent} {F G : List Nat} (H : Heap w F L W) (hG : ∀ i ∈ G, i < w.heap.size) : ∀ i ∈ G ++ ids L, i < W.heap.size := by
  intro i hi
  rcases List.mem_append.1 hi with h | h
  · exact Nat.lt_of_lt_of_le (hG i h) H.only.size
  · exact H.idlt i h
section
variable (g : Geo) (d : Nv.D) (s : RefS) (m : Nat) (k a n v : Int) (A : Option Addr) (nc cc : Nat) (cs : List Int) (X : List Nat) (w : World)

end
end Go.Proofs.Ytmekhdclnhhhbaa
end

section
namespace Go.Proofs.Ytmekhdclnhhhbaa
open Go.RowKit
set_option linter.unusedSimpArgs false
set_option linter.unusedVariables false
theorem load8 : Nv.Ok (Nv.load (List.replicate (8 * 1) 0) 1) 1 := ⟨rfl, rfl, rfl, rfl, rfl⟩
/-- a call, as the script holds it -/
structure OpS where
  k : Int
  a : Int
  n : Int
  v : Int
  A : Option Addr
  nc : Nat
  cc : Nat
  cs : List Int
def OpS.cells (o : OpS) : List Value := [.int .i64 o.k, .int .i64 o.a, .int .i64 o.n, .int .u64 o.v, .slice o.A o.nc o.cc]
structure OpOk (w : World) (o : OpS) : Prop where
  see : Sees (Value.int .u8) w [] o.A o.cs
  len : o.cs.length = o.nc
  bd : ∀ z ∈ o.cs, 0 ≤ z
  n1 : -9223372036854775808 ≤ o.n ∧ o.n ≤ 9223372036854775807
  ncb : o.nc ≤ 9223372036854775807
  vb : 0 ≤ o.v ∧ o.v ≤ 18446744073709551615
def Script (w : World) (A : Option Addr) (ops : List OpS) : Prop := (ops.length ≠ 0 → ∃ b o, A = some ⟨b, o, none⟩ ∧ ∀ i op, ops[i]? = some op → Reads (fun v : Value => v) w b (o + i * 5) op.cells) ∧ ∀ op ∈ ops, OpOk w op
end Go.Proofs.Ytmekhdclnhhhbaa
end

section
namespace Go.Proofs.Ytmekhdclnhhhbaa
open Go.RowKit
set_option linter.unusedSimpArgs false
set_option linter.unusedVariables false
def start (zs : List Int) : Nv.D := Nv.load (zs ++ List.replicate (8 * ((zs.length + 7) / 8) - zs.length) 0) ((zs.length + 7) / 8)
end Go.Proofs.Ytmekhdclnhhhbaa
end

section
namespace Go.Proofs.Ytmekhdclnhhhbaa
set_option linter.unusedSimpArgs false
set_option linter.unusedVariables false
section
open Go.ChangeShapes Go.WideShapes Go.Deep
variable {H : Type} {enc : TypeId × Value → H} {w : World} {base : Nat} {spare : Nat → Bool} {held : Bool}
theorem add_none {b o i : Nat} : (⟨b, o, none⟩ : Addr).add i = ⟨b, o + i, none⟩ := by
  unfold Addr.add; split
  · subst_vars; rfl
  · rfl
theorem sees_row {k : IntKind} {t e : TypeId} {fuel : Nat} {v : Value} {y : DataW H × List MemPlace} (ht : Try.prog.underlying t = some (.slice e)) (he : Try.prog.underlying e = some (.int k)) (hc : Try.prog.cellsOf e = 1)
    (h : DataW.trod enc Try.prog w base spare held fuel t [v] = some y) :
    ∃ A n c xs, v = .slice A n c ∧ Sees (Value.int k) w [] A xs ∧ xs.length = n ∧ n ≤ c ∧ c ≤ maxLen ∧ ∀ z ∈ xs, (Lit.int k z).wf = true := by
  rcases open_ints ht he hc h with ⟨hcs, _⟩ | ⟨x, l, c, zs, hcs, _, hl, hm, hz, _, hcell, hwf⟩
  · injection hcs with hv _
    exact ⟨none, 0, 0, [], hv, Sees.nil, rfl, by omega, by decide, by simp⟩
  · injection hcs with hv _
    have hzl : l ≤ zs.length := by rw [hz]; split <;> omega
    refine ⟨some x, l, c, zs.take l, hv, fun h0 => ?_, by simp; omega, hl, hm, fun z hz => hwf z (List.mem_of_mem_take hz)⟩
    obtain ⟨b, off, spot⟩ := x
    have h0' : 0 < l := by simp at h0; omega
    have hc0 := hcell 0 (by omega)
    have hspot : spot = none := by simpa [Addr.add] using World.cell?_spot hc0
    subst hspot
    refine ⟨b, off, rfl, by simp, fun j z hj => ?_⟩
    have hjl : j < l := by have := (List.getElem?_eq_some_iff.1 hj).1; simp at this; omega
    rw [List.getElem?_take_of_lt hjl] at hj
    have hc2 := hcell j (by omega)
    rw [add_none] at hc2
    rw [hc2]
    simp [List.getD, hj]
theorem list_of {α : Type} {Q : Nat → α → Prop} : ∀ n : Nat, (∀ i, i < n → ∃ x, Q i x) → ∃ l : List α, l.length = n ∧ ∀ i x, l[i]? = some x → Q i x
  | 0, _ => ⟨[], rfl, by simp⟩
  | n + 1, h => by
    obtain ⟨l, hl, hq⟩ := list_of n (fun i hi => h i (by omega))
    obtain ⟨x, hx⟩ := h n (by omega)
    refine ⟨l ++ [x], by simp [hl], fun i y hy => ?_⟩
    by_cases hi : i < l.length
    · rw [List.getElem?_append_left hi] at hy; exact hq i y hy
    · have hi2 : i < n + 1 := by have := (List.getElem?_eq_some_iff.1 hy).1; simp at this; omega
      obtain rfl : i = n := by omega
      rw [List.getElem?_append_right (by omega)] at hy
      simp [hl] at hy
      subst hy; exact hx
theorem row_words {k : IntKind} {A : Option Addr} {n c : Nat} {zs : List Int} (h : IsRow k w A n c zs) : Sees (Value.int k) w [] A (zs.take n) ∧ (zs.take n).length = n ∧ n ≤ c ∧ c ≤ maxLen ∧ ∀ z ∈ zs.take n, (Lit.int k z).wf = true := by
  rcases h with ⟨rfl, rfl, rfl, rfl⟩ | ⟨x, rfl, hl, hm, hz, hcell, hwf⟩
  · exact ⟨Sees.nil, rfl, by omega, by decide, by simp⟩
  · refine ⟨fun h0 => ?_, by simp; omega, hl, hm, fun z hz => hwf z (List.mem_of_mem_take hz)⟩
    obtain ⟨b, off, spot⟩ := x
    have h0' : 0 < n := by simp at h0; omega
    have hc0 := hcell 0 (by omega)
    have hspot : spot = none := by simpa [Addr.add] using World.cell?_spot hc0
    subst hspot
    refine ⟨b, off, rfl, by simp, fun j z hj => ?_⟩
    have hjl : j < n := by have := (List.getElem?_eq_some_iff.1 hj).1; simp at this; omega
    rw [List.getElem?_take_of_lt hjl] at hj
    have hc2 := hcell j (by omega)
    rw [add_none] at hc2
    rw [hc2]
    simp [List.getD, hj]
set_option maxRecDepth 100000 in
theorem one_of {t : TypeId} {fs : Array Field} (h : Try.prog.underlying t = some (.struct fs)) (h2 : (match Try.prog.underlying t with | some (.struct fs) => oneCellFields Try.prog fs | _ => false) = true) : oneCellFields Try.prog fs = true := by
  rw [h] at h2; exact h2
set_option maxRecDepth 100000 in
theorem open_op {fuel : Nat} {cs : List Value} {y : DataW H × List MemPlace} (h : DataW.trod enc Try.prog w base spare held fuel 51 cs = some y) : ∃ op : OpS, cs = op.cells ∧ OpOk w op := by
  obtain ⟨xs, n, _, _, hl, hlen, hg⟩ := DataW.trod_struct Try.underlying51 h
  have hone := one_of Try.underlying51 (by kernel_rfl)
  have hcl : cs.length = 5 := hl.trans (by kernel_rfl)
  replace hlen : xs.length = 5 := hlen
  match cs, hcl, xs, hlen with
  | [c0, c1, c2, c3, c4], _, [y0, y1, y2, y3, y4], _ =>
    obtain ⟨o0, k0⟩ := hone_of hone 0 _ rfl
    obtain ⟨o1, k1⟩ := hone_of hone 1 _ rfl
    obtain ⟨o2, k2⟩ := hone_of hone 2 _ rfl
    obtain ⟨o3, k3⟩ := hone_of hone 3 _ rfl
    obtain ⟨o4, k4⟩ := hone_of hone 4 _ rfl
    have g0 := hg 0 _ rfl
    have g1 := hg 1 _ rfl
    have g2 := hg 2 _ rfl
    have g3 := hg 3 _ rfl
    have g4 := hg 4 _ rfl
    rw [o0, k0] at g0
    rw [o1, k1] at g1
    rw [o2, k2] at g2
    rw [o3, k3] at g3
    rw [o4, k4] at g4
    replace g0 := g0.trans (show _ = some y0 from rfl)
    replace g1 := g1.trans (show _ = some y1 from rfl)
    replace g2 := g2.trans (show _ = some y2 from rfl)
    replace g3 := g3.trans (show _ = some y3 from rfl)
    replace g4 := g4.trans (show _ = some y4 from rfl)
    obtain ⟨z0, e0, _, w0⟩ := DataW.trod_int Try.underlying3 g0
    obtain ⟨z1, e1, _, w1⟩ := DataW.trod_int Try.underlying3 g1
    obtain ⟨z2, e2, _, w2⟩ := DataW.trod_int Try.underlying3 g2
    obtain ⟨z3, e3, _, w3⟩ := DataW.trod_int Try.underlying22 g3
    obtain ⟨A, m, c, bs, e4, hs, hb, hmc, hcm, hw⟩ := sees_row Try.underlying49 Try.underlying5 (by kernel_rfl) (show DataW.trod enc Try.prog w base spare held n 49 [c4] = some y4 from g4)
    obtain rfl : c0 = .int .i64 z0 := by simpa using e0
    obtain rfl : c1 = .int .i64 z1 := by simpa using e1
    obtain rfl : c2 = .int .i64 z2 := by simpa using e2
    obtain rfl : c3 = .int .u64 z3 := by simpa using e3
    subst e4
    refine ⟨⟨z0, z1, z2, z3, A, m, c, bs⟩, rfl, hs, hb, fun z hz => ?_, ?_, ?_, ?_⟩
    · have := hw z hz
      simp [Lit.wf, IntKind.min, IntKind.max, IntKind.signed, IntKind.bits] at this
      omega
    · simp [Lit.wf, IntKind.min, IntKind.max, IntKind.signed, IntKind.bits] at w2
      refine ⟨?_, ?_⟩
      · show _ ≤ z2; omega
      · show z2 ≤ _; omega
    · simp only [maxLen] at hcm
      show m ≤ _
      omega
    · simp [Lit.wf, IntKind.min, IntKind.max, IntKind.signed, IntKind.bits] at w3
      refine ⟨?_, ?_⟩
      · show _ ≤ z3; omega
      · show z3 ≤ _; omega
set_option maxRecDepth 100000 in
theorem open_script (W : World) {r : Reach} (b0 : Nat) (v : Value) (d : DataW H) (p : List MemPlace)
    (hv : Value.okWide Try.prog W r b0 46 v) (h : DataW.Trod enc Try.prog W base spare held 46 v d p) :
    ∃ x : Option Addr × Nat × Nat × List OpS, v = .slice x.1 x.2.1 x.2.2.1 ∧ (Script W x.1 x.2.2.2 ∧ x.2.2.2.length = x.2.1 ∧ x.2.1 ≤ 9223372036854775807) := by
  obtain ⟨a, len, cap, rfl⟩ := okWide_slice Try.underlying46 hv
  obtain ⟨fuel, hf⟩ := h
  have c5 : Try.prog.cellsOf 51 = 5 := by kernel_rfl
  rcases open_slice Try.underlying46 hf with ⟨hcs, _⟩ | ⟨x, l, c, m, n, D, Pl, hcs, _, hl, hm, hmm, _, hx⟩
  · simp [Value.cells] at hcs
    obtain ⟨rfl, rfl, rfl⟩ := hcs
    exact ⟨(none, 0, 0, []), rfl, ⟨fun h => absurd rfl h, by simp⟩, rfl, by show (0 : Nat) ≤ _; omega⟩
  · simp [Value.cells] at hcs
    obtain ⟨rfl, rfl, rfl⟩ := hcs
    rw [c5] at hx
    have hlm : len ≤ m := by rw [hmm]; split <;> omega
    obtain ⟨ops, hol, hq⟩ := list_of (Q := fun i (op : OpS) => OpOk W op ∧ ∀ j u, op.cells[j]? = some u → W.cell? (x.add (i * 5 + j)) = some u) len (fun i hi => by
      obtain ⟨cs', hc, ht⟩ := hx i (by omega)
      obtain ⟨op, rfl, hok⟩ := open_op ht
      obtain ⟨_, hcl, hat⟩ := World.cells?_some hc
      refine ⟨op, hok, fun j u hj => ?_⟩
      have hj5 : j < 5 := by have := (List.getElem?_eq_some_iff.1 hj).1; rw [hcl] at this; exact this
      rw [← Go.Deep.add_add, hat j hj5, hj])
    refine ⟨(some x, len, cap, ops), rfl, ⟨fun h0 => ?_, fun op hop => ?_⟩, hol, by simp only [maxLen] at hm; show len ≤ _; omega⟩
    · have h00 : ops.length ≠ 0 := h0
      obtain ⟨op0, hop0⟩ : ∃ op, ops[0]? = some op := ⟨_, List.getElem?_eq_getElem (by omega)⟩
      obtain ⟨b, off, spot⟩ := x
      have hc0 := (hq 0 op0 hop0).2 0 _ rfl
      have hspot : spot = none := by simpa [Addr.add] using World.cell?_spot hc0
      subst hspot
      refine ⟨b, off, rfl, fun i op hi j u hu => ?_⟩
      have := (hq i op hi).2 j u hu
      rw [add_none] at this
      rw [Nat.add_assoc]; exact this
    · obtain ⟨i, hi, rfl⟩ := List.mem_iff_getElem.1 hop
      exact (hq i _ (List.getElem?_eq_getElem hi)).1
end
open Go.RowKit
theorem OpOk.later {w W : World} {o : OpS} (h : OpOk w o) (hO : Only [] w W) : OpOk W o := ⟨h.see.later hO (by simp), h.len, h.bd, h.n1, h.ncb, h.vb⟩
theorem Script.later {w W : World} {A : Option Addr} {ops : List OpS} (h : Script w A ops) (hO : Only [] w W) : Script W A ops :=
  ⟨fun h0 => by
    obtain ⟨b, o, e, hr⟩ := h.1 h0
    exact ⟨b, o, e, fun i op hi => (hr i op hi).later hO (by simp)⟩, fun op hop => (h.2 op hop).later hO⟩
end Go.Proofs.Ytmekhdclnhhhbaa
end

section
namespace Go.Proofs.Ytmekhdclnhhhbaa
open Go.RowKit
set_option linter.unusedSimpArgs false
set_option linter.unusedVariables false
section
variable {P : Program} {n : Nat} {f : Nat → Value} {x y : Operand} {t t2 ty : TypeId} {pos : String} {af : Array Edge} {g : Option (Nat × Bool)} {dst : Option Tmp} {W : World}
end
theorem dirtyTo_rep (m : Nat) : ∀ k, Nv.dirtyTo (List.replicate m false) k = []
  | 0 => rfl
  | k + 1 => by
    rw [Nv.dirtyTo, dirtyTo_rep m k, if_neg]
    by_cases hk : k < m <;> simp [List.getD, List.getElem?_replicate, hk]
end Go.Proofs.Ytmekhdclnhhhbaa
end

section
namespace Go.Proofs.Ytmekhdclnhhhbaa.Nv
set_option linter.unusedSimpArgs false
set_option linter.unusedVariables false
theorem getD_set {α : Type} (l : List α) (i j : Nat) (v z : α) (hi : i < l.length) : (l.set i v).getD j z = if i = j then v else l.getD j z := by
  simp only [List.getD, List.getElem?_set]
  split
  · subst_vars; simp [hi]
  · rfl
theorem getD_part (c : List Int) (i r : Nat) (hr : r < 8) : (part c i).getD r 0 = c.getD (8 * i + r) 0 := by
  unfold part
  simp only [List.getD]
  rw [List.getElem?_take_of_lt hr, List.getElem?_drop]
theorem getD_setPart (l c : List Int) (i x : Nat) (hl : 8 * i + 8 ≤ l.length) (hc : 8 * i + 8 ≤ c.length) : (setPart l i (part c i)).getD x 0 = if x / 8 = i then c.getD x 0 else l.getD x 0 := by
  have hp : (part c i).length = 8 := length_part hc
  unfold setPart
  by_cases h1 : x < 8 * i
  · rw [if_neg (by omega)]
    simp only [List.getD]
    rw [List.append_assoc, List.getElem?_append_left (by simp; omega), List.getElem?_take_of_lt h1]
  · by_cases h2 : x < 8 * i + 8
    · rw [if_pos (by omega)]
      have := getD_part c i (x - 8 * i) (by omega)
      rw [show 8 * i + (x - 8 * i) = x by omega] at this
      rw [← this]
      simp only [List.getD]
      rw [List.getElem?_append_left (by simp [hp]; omega), List.getElem?_append_right (by simp; omega)]
      simp only [List.length_take]
      rw [show min (8 * i) l.length = 8 * i by omega]
    · rw [if_neg (by omega)]
      simp only [List.getD]
      rw [List.getElem?_append_right (by simp [hp]; omega), List.getElem?_drop]
      simp only [List.length_append, List.length_take, hp]
      rw [show 8 * i + 8 + (x - (min (8 * i) l.length + 8)) = x by omega]
theorem of_same {a b : List Int} {i x : Nat} (h : same (part a i) (part b i) = true) (hx : x / 8 = i) : a.getD x 0 = b.getD x 0 := by
  have h' : part a i = part b i := of_decide_eq_true h
  have : (part a i).getD (x - 8 * i) 0 = (part b i).getD (x - 8 * i) 0 := by rw [h']
  rw [getD_part _ _ _ (by omega), getD_part _ _ _ (by omega), show 8 * i + (x - 8 * i) = x by omega] at this
  exact this
/-- a line that is not dirty lasts as it is; what is pending is dirty -/
structure Inv (d : D) (m : Nat) : Prop where
  ok : Ok d m
  cl : ∀ x, x < 8 * m → d.dirty.getD (x / 8) false = false → d.last.getD x 0 = d.cache.getD x 0
  pd : ∀ i, d.pend.getD i false = true → d.dirty.getD i false = true
theorem Inv.load (ws : List Int) (m : Nat) (h : ws.length = 8 * m) : Inv (load ws m) m :=
  ⟨⟨h, h, by simp [Nv.load, h], by simp [Nv.load], by simp [Nv.load]⟩, fun _ _ _ => rfl, fun i hi => by
    have : (List.replicate m false).getD i false = true := hi
    simp only [List.getD, List.getElem?_replicate] at this
    split at this <;> simp at this⟩
theorem Inv.killed {d : D} {m : Nat} (h : Inv d m) : Inv (killed d) m := ⟨h.ok.killed, h.cl, h.pd⟩
theorem Inv.stepped {d : D} {m : Nat} (h : Inv d m) : Inv (stepped d) m := ⟨h.ok.stepped, h.cl, h.pd⟩
theorem Inv.put {d : D} {m : Nat} (h : Inv d m) {a : Nat} (ha : a < 8 * m) (v : Int) : Inv (put d a v) m := by
  have hd := h.ok.hd
  have hc := h.ok.hc
  refine ⟨h.ok.put a v, fun x hx hdx => ?_, fun i hi => ?_⟩
  · have e : (d.dirty.set (a / 8) true).getD (x / 8) false = false := hdx
    rw [getD_set _ _ _ _ _ (by omega)] at e
    split at e
    · cases e
    · show d.last.getD x 0 = (d.cache.set a v).getD x 0
      rw [getD_set _ _ _ _ _ (by omega), if_neg (by rintro rfl; exact absurd rfl ‹_›)]
      exact h.cl x hx e
  · show (d.dirty.set (a / 8) true).getD i false = true
    rw [getD_set _ _ _ _ _ (by omega)]
    split
    · rfl
    · exact h.pd i hi
theorem Inv.flushed {d : D} {m : Nat} (h : Inv d m) {i : Nat} (hi : i < m) (hd : d.dirty.getD i false = true) : Inv (flushed d i) m := by
  have hp := h.ok.hp
  refine ⟨h.ok.flushed hi, h.cl, fun j hj => ?_⟩
  have e : (d.pend.set i true).getD j false = true := hj
  rw [getD_set _ _ _ _ _ (by omega)] at e
  split at e
  · subst_vars; exact hd
  · exact h.pd j e
theorem Inv.evicted {d : D} {m : Nat} (h : Inv d m) {i : Nat} (hi : i < m) : Inv (evicted d i) m := by
  have hd := h.ok.hd
  have hp := h.ok.hp
  have hl := h.ok.hl
  have hc := h.ok.hc
  refine ⟨h.ok.evicted hi, fun x hx hdx => ?_, fun j hj => ?_⟩
  · show (setPart d.last i (part d.cache i)).getD x 0 = d.cache.getD x 0
    rw [getD_setPart _ _ _ _ (by omega) (by omega)]
    split
    · rfl
    · have e : (d.dirty.set i false).getD (x / 8) false = false := hdx
      rw [getD_set _ _ _ _ _ (by omega), if_neg (by omega)] at e
      exact h.cl x hx e
  · have e : (d.pend.set i false).getD j false = true := hj
    rw [getD_set _ _ _ _ _ (by omega)] at e
    split at e
    · cases e
    · show (d.dirty.set i false).getD j false = true
      rw [getD_set _ _ _ _ _ (by omega), if_neg ‹_›]
      exact h.pd j e
theorem Inv.fenceLine {d : D} {m : Nat} (h : Inv d m) {i : Nat} (hi : i < m) : Inv (fenceLine d i) m := by
  have hd := h.ok.hd
  have hp := h.ok.hp
  have hl := h.ok.hl
  have hf := h.ok.hf
  have ho := h.ok.fenceLine hi
  unfold Nv.fenceLine at ho ⊢
  split
  · rename_i hpi
    rw [if_pos hpi] at ho
    refine ⟨ho, fun x hx hdx => ?_, fun j hj => ?_⟩
    · have e : (d.dirty.set i (!same (part d.fl i) (part d.cache i))).getD (x / 8) false = false := hdx
      show (setPart d.last i (part d.fl i)).getD x 0 = d.cache.getD x 0
      rw [getD_setPart _ _ _ _ (by omega) (by omega)]
      rw [getD_set _ _ _ _ _ (by omega)] at e
      by_cases hxi : x / 8 = i
      · rw [if_pos hxi.symm] at e
        rw [if_pos hxi]
        exact of_same (by simpa using e) hxi
      · rw [if_neg (fun h => hxi h.symm)] at e
        rw [if_neg hxi]
        exact h.cl x hx e
    · have e : (d.pend.set i false).getD j false = true := hj
      rw [getD_set _ _ _ _ _ (by omega)] at e
      split at e
      · cases e
      · show (d.dirty.set i _).getD j false = true
        rw [getD_set _ _ _ _ _ (by omega), if_neg ‹_›]
        exact h.pd j e
  · exact h
theorem Inv.fenceTo {d : D} {m : Nat} (h : Inv d m) : ∀ k, k ≤ m → Inv (fenceTo d k) m
  | 0, _ => h
  | k + 1, hk => (Inv.fenceTo h k (by omega)).fenceLine (by omega)
theorem Inv.store {d : D} {m : Nat} (h : Inv d m) (a v : Int) : Inv (store d m a v).1 m := by
  unfold Nv.store; split
  · split
    · exact h.killed
    · exact h.stepped.put (by omega) _
  · exact h
theorem Inv.flush {d : D} {m : Nat} (h : Inv d m) (l : Int) : Inv (flush d m l).1 m := by
  unfold Nv.flush; split
  · split
    · exact h.killed
    · show Inv (if _ then _ else _) m
      split
      · exact h.stepped.flushed (by omega) ‹_›
      · exact h.stepped
  · exact h
theorem Inv.fence {d : D} {m : Nat} (h : Inv d m) : Inv (fence d m).1 m := by
  unfold Nv.fence; split
  · exact h.killed
  · exact h.stepped.fenceTo m (Nat.le_refl _)
theorem Inv.evict {d : D} {m : Nat} (h : Inv d m) (l : Int) : Inv (evict d m l).1 m := by
  unfold Nv.evict; split
  · split
    · exact h
    · exact h.evicted (by omega)
  · exact h
end Go.Proofs.Ytmekhdclnhhhbaa.Nv
end

section
namespace Go.Proofs.Ytmekhdclnhhhbaa
open Go.RowKit
set_option linter.unusedSimpArgs false
set_option linter.unusedVariables false
theorem get_nat {l : List Int} {k : Nat} (h : k < l.length) : Nv.get l (k : Int) = l.getD k default := by
  unfold Nv.get
  rw [if_pos (by omega), Int.toNat_natCast]; rfl
theorem iSame (g1 g2 : Geo) (d1 d2 : Nv.D) (m1 m2 : Nat) (w : World) (hE1 : Ents (devL g1 d1) w) (hE2 : Ents (devL g2 d2) w) (o1 : Nv.Ok d1 m1) (o2 : Nv.Ok d2 m2) (hm : m1 ≤ 100000) :
    Calls Try.prog 41 [ptr g1.p, ptr g2.p].toArray w fun e w' => e = .returned (.bool (Nv.same d1.last d2.last)) ∧ Only [] w w' := by
  have HR1 := Heap.start hE1
  have HR2 := Heap.start hE2
  have H := Heap.nil w
  have hL1 := nLen g1 d1
  have hL2 := nLen g2 d2
  rw [o1.hc] at hL1
  rw [o2.hc] at hL2
  have l1 := o1.hl
  have l2 := o2.hl
  by_cases hne : m1 = m2
  · subst hne
    refine k_in (N := 24) Try.func41 rfl rfl rfl ?_
    refine k_seq ?_
    refine k_rg ?_
    refine s_run rfl rfl (r_as (v := .bool _) rfl) ?_
    refine k_nil ?_
    refine c_norm ?_
    refine k_seq ?_
    refine k_seq ?_
    refine k_rg ?_
    refine s_run rfl rfl (r_mv (v := .pointer _) rfl) ?_
    refine s_call rfl (hL1 _ (HR1.same H.only).ents) (ca24 rfl) ?_
    rintro e W1 ⟨rfl, H'⟩
    refine ⟨_, rfl, ?_⟩
    have H := H.same H'; clear H'
    refine s_run rfl rfl (r_mv (v := .pointer _) rfl) ?_
    refine s_call rfl (hL2 _ (HR2.same H.only).ents) (ca24 rfl) ?_
    rintro e W1 ⟨rfl, H'⟩
    refine ⟨_, rfl, ?_⟩
    have H := H.same H'; clear H'
    refine s_run rfl rfl (r_neqF rfl rfl (by omega)) ?_
    refine k_nil ?_
    refine c_norm ?_
    refine k_f rfl ?_
    refine k_skip ?_
    refine c_norm ?_
    refine k_seq ?_
    refine k_seq ?_
    refine k_rg ?_
    refine s_run rfl rfl (r_mv (v := .pointer _) rfl) ?_
    refine s_call rfl (hL1 _ (HR1.same H.only).ents) (ca24 rfl) ?_
    rintro e W1 ⟨rfl, H'⟩
    refine ⟨_, rfl, ?_⟩
    have H := H.same H'; clear H'
    refine s_run rfl rfl (r_mv (v := .int _ _) rfl) ?_
    refine k_nil ?_
    refine c_norm ?_
    refine k_b ?_
    refine k_loop (fun z f W => ∃ k : Nat, k ≤ 8 * m1 ∧ z = 8 * m1 - k ∧ (∀ i, i < k → d1.last.getD i default = d2.last.getD i default) ∧ f 0 = ptr g1.p ∧ f 1 = ptr g2.p ∧ f 12 = .int .i64 ((8 * m1 : Nat) : Int) ∧ f 13 = .int .i64 k ∧ Heap w [] [] W) (8 * m1) ⟨0, by omega, rfl, by omega, rfl, rfl, rfl, rfl, H⟩ ?_
    clear H
    rintro z f W ⟨k, hk, rfl, hall, f0, f1, f12, f13, H⟩
    obtain ⟨f, rfl⟩ := live4 f0 f1 f12 f13
    clear f0 f1 f12 f13
    by_cases hlt : k < 8 * m1
    · have hG1 := nLasting g1 d1 k
      have hG2 := nLasting g2 d2 k
      rw [get_nat (by omega)] at hG1 hG2
      by_cases he : d1.last.getD k default = d2.last.getD k default
      · refine k_seq ?_
        refine k_rg ?_
        refine s_run rfl rfl (r_lssT rfl rfl (by omega)) ?_
        refine k_nil ?_
        refine c_norm ?_
        refine k_seq ?_
        refine k_t rfl ?_
        refine k_skip ?_
        refine c_norm ?_
        refine k_seq ?_
        refine k_b ?_
        refine k_seq ?_
        refine k_rg ?_
        refine s_run rfl rfl (r_mv (v := .int _ _) rfl) ?_
        refine s_run rfl rfl (r_as (v := .int _ _) rfl) ?_
        refine k_nil ?_
        refine c_norm ?_
        refine k_seq ?_
        refine k_rg ?_
        refine s_run rfl rfl (r_mv (v := .pointer _) rfl) ?_
        refine s_run rfl rfl (r_mv (v := .int _ _) rfl) ?_
        refine s_call rfl (hG1 _ (HR1.same H.only).ents) (ca26 rfl) ?_
        rintro e W1 ⟨rfl, H'⟩
        refine ⟨_, rfl, ?_⟩
        have H := H.same H'; clear H'
        refine s_run rfl rfl (r_mv (v := .pointer _) rfl) ?_
        refine s_run rfl rfl (r_mv (v := .int _ _) rfl) ?_
        refine s_call rfl (hG2 _ (HR2.same H.only).ents) (ca26 rfl) ?_
        rintro e W1 ⟨rfl, H'⟩
        refine ⟨_, rfl, ?_⟩
        have H := H.same H'; clear H'
        refine s_run rfl rfl (r_neqF rfl rfl (by omega)) ?_
        refine k_nil ?_
        refine c_norm ?_
        refine k_f rfl ?_
        refine k_skip ?_
        refine b_norm ?_
        refine c_norm ?_
        refine k_rg ?_
        refine s_run rfl rfl (r_add rfl rfl (wI (by omega))) ?_
        refine s_run rfl rfl (r_mv (v := .int _ _) rfl) ?_
        refine k_nil ?_
        refine c_round ?_
        refine ⟨_, _, ?_, rfl, k + 1, by omega, rfl, ?_, rfl, rfl, rfl, rfl, H⟩
        · omega
        · intro i hi
          by_cases hik : i = k
          · subst hik; exact he
          · exact hall i (by omega)
      · rw [same_no he]
        refine k_seq ?_
        refine k_rg ?_
        refine s_run rfl rfl (r_lssT rfl rfl (by omega)) ?_
        refine k_nil ?_
        refine c_norm ?_
        refine k_seq ?_
        refine k_t rfl ?_
        refine k_skip ?_
        refine c_norm ?_
        refine k_seq ?_
        refine k_b ?_
        refine k_seq ?_
        refine k_rg ?_
        refine s_run rfl rfl (r_mv (v := .int _ _) rfl) ?_
        refine s_run rfl rfl (r_as (v := .int _ _) rfl) ?_
        refine k_nil ?_
        refine c_norm ?_
        refine k_seq ?_
        refine k_rg ?_
        refine s_run rfl rfl (r_mv (v := .pointer _) rfl) ?_
        refine s_run rfl rfl (r_mv (v := .int _ _) rfl) ?_
        refine s_call rfl (hG1 _ (HR1.same H.only).ents) (ca26 rfl) ?_
        rintro e W1 ⟨rfl, H'⟩
        refine ⟨_, rfl, ?_⟩
        have H := H.same H'; clear H'
        refine s_run rfl rfl (r_mv (v := .pointer _) rfl) ?_
        refine s_run rfl rfl (r_mv (v := .int _ _) rfl) ?_
        refine s_call rfl (hG2 _ (HR2.same H.only).ents) (ca26 rfl) ?_
        rintro e W1 ⟨rfl, H'⟩
        refine ⟨_, rfl, ?_⟩
        have H := H.same H'; clear H'
        refine s_run rfl rfl (r_neqT rfl rfl (by omega)) ?_
        refine k_nil ?_
        refine c_norm ?_
        refine k_t rfl ?_
        refine k_seq ?_
        refine k_rg ?_
        refine s_run rfl rfl (r_as (v := .bool _) rfl) ?_
        refine k_nil ?_
        refine c_norm ?_
        refine k_ret ?_
        refine b_ret ?_
        refine c_ret ?_
        refine c_ret ?_
        refine b_ret ?_
        refine c_ret ?_
        refine fin1r (v := .bool _) rfl rfl ?_
        exact ⟨rfl, H.only⟩
    · obtain rfl : k = 8 * m1 := by omega
      have hs : Nv.same d1.last d2.last = true := decide_eq_true (all_upto hall l1 l2)
      rw [hs]
      refine k_seq ?_
      refine k_rg ?_
      refine s_run rfl rfl (r_lssF rfl rfl (by omega)) ?_
      refine k_nil ?_
      refine c_norm ?_
      refine k_seq ?_
      refine k_f rfl ?_
      refine k_exit ?_
      refine c_exit ?_
      refine c_exit ?_
      refine b_hit ?_
      refine c_norm ?_
      refine k_seq ?_
      refine k_rg ?_
      refine s_run rfl rfl (r_as (v := .bool _) rfl) ?_
      refine k_nil ?_
      refine c_norm ?_
      refine k_ret ?_
      refine fin1r (v := .bool _) rfl rfl ?_
      exact ⟨rfl, H.only⟩
  · rw [same_len (by omega)]
    refine k_in (N := 24) Try.func41 rfl rfl rfl ?_
    refine k_seq ?_
    refine k_rg ?_
    refine s_run rfl rfl (r_as (v := .bool _) rfl) ?_
    refine k_nil ?_
    refine c_norm ?_
    refine k_seq ?_
    refine k_seq ?_
    refine k_rg ?_
    refine s_run rfl rfl (r_mv (v := .pointer _) rfl) ?_
    refine s_call rfl (hL1 _ (HR1.same H.only).ents) (ca24 rfl) ?_
    rintro e W1 ⟨rfl, H'⟩
    refine ⟨_, rfl, ?_⟩
    have H := H.same H'; clear H'
    refine s_run rfl rfl (r_mv (v := .pointer _) rfl) ?_
    refine s_call rfl (hL2 _ (HR2.same H.only).ents) (ca24 rfl) ?_
    rintro e W1 ⟨rfl, H'⟩
    refine ⟨_, rfl, ?_⟩
    have H := H.same H'; clear H'
    refine s_run rfl rfl (r_neqT rfl rfl (by omega)) ?_
    refine k_nil ?_
    refine c_norm ?_
    refine k_t rfl ?_
    refine k_seq ?_
    refine k_rg ?_
    refine s_run rfl rfl (r_as (v := .bool _) rfl) ?_
    refine k_nil ?_
    refine c_norm ?_
    refine k_ret ?_
    refine c_ret ?_
    refine fin1r (v := .bool _) rfl rfl ?_
    exact ⟨rfl, H.only⟩
theorem iAwake (w : World) : Calls Try.prog 40 [].toArray w fun e w' => e = .returned (.bool true) ∧ Only [] w w' := by
  have H := Heap.nil w
  have hS := fun g W hE => iSave g (Nv.load (List.replicate (8 * 1) 0) 1) 1 W hE load8 (fun x hx => by rw [(List.mem_replicate.1 hx).2]; decide) (by omega)
  have hU : Im.U (List.replicate (8 * 1) 0) := fun x hx => by rw [(List.mem_replicate.1 hx).2]; decide
  have hw : By.words (Im.save (List.replicate (8 * 1) 0)) = Im.out (List.replicate (8 * 1) 0) := By.words_bytes _ (Im.out_bd (by simp) hU)
  have hW := fun A c W hz => (cWordsOf A (Im.save (List.replicate (8 * 1) 0)).length c (Im.save (List.replicate (8 * 1) 0)) W hz rfl (By.bytes_bd _) (by rw [Im.save_len]; decide)).mono (fun e w' h => h.vec (by rw [hw]; simp [Im.out, Im.head]))
  rw [hw] at hW
  have ho : Im.out (List.replicate (8 * 1) 0) = [13905993476890996, 8, 8, 0, Im.sum (Im.head (List.replicate (8 * 1) 0))] := rfl
  rw [ho] at hW
  simp only [List.length_cons, List.length_nil, Nat.reduceAdd] at hW
  generalize Im.sum (Im.head (List.replicate (8 * 1) 0)) = sm at *
  refine k_in (N := 28) Try.func40 rfl rfl rfl ?_
  refine k_seq ?_
  refine k_rg ?_
  refine s_run rfl rfl (r_as (v := .bool _) rfl) ?_
  refine k_nil ?_
  refine c_norm ?_
  refine k_seq ?_
  refine k_rg ?_
  refine s_call rfl (nNew 8 _ (by omega)) (ca21 rfl) ?_
  rintro e W1 ⟨g, rfl, hg, H'⟩
  refine ⟨_, rfl, ?_⟩
  have H := H.more (A := [grp _]) (grp_heap H'); clear H'
  refine s_call rfl (hS g _ (H.grp_ents 0 rfl)) (ca48 rfl) ?_
  rintro e W1 ⟨A1, c1, rfl, H'⟩
  refine ⟨_, rfl, ?_⟩
  have H := H.more (A := [_]) H'; clear H'; simp only [List.cons_append, List.nil_append] at H
  refine s_call rfl (hW _ _ _ (H.own_sees 0 rfl)) (ca81 rfl) ?_
  rintro e W1 ⟨b, cb, rfl, hcb, hcm, H'⟩
  refine ⟨_, rfl, ?_⟩
  have H := H.more (A := [_]) H'; clear H'; simp only [List.cons_append, List.nil_append] at H
  refine s_run rfl rfl (r_as (v := .slice _ _ _) rfl) ?_
  refine k_nil ?_
  refine c_norm ?_
  refine k_seq ?_
  refine k_rg ?_
  refine s_run rfl rfl (r_mv (v := .slice _ _ _) rfl) ?_
  refine s_run rfl rfl (r_len rfl Try.underlying25) ?_
  refine s_run rfl rfl (r_eqlT rfl rfl (by omega)) ?_
  refine s_run rfl rfl (r_mv (v := .bool _) rfl) ?_
  refine s_run rfl (g_on 8 (by kernel_rfl) rfl) (r_mv (v := .slice _ _ _) rfl) ?_
  refine s_run rfl (g_on 8 (by kernel_rfl) rfl) (r_ix1 (i := 2) rfl rfl (by omega) (by omega) Try.underlying25 sz22) ?_
  refine s_run rfl (g_on 8 (by kernel_rfl) rfl) (r_lv (z := 8) H 0 rfl rfl rfl ag22) ?_
  refine s_run rfl (g_on 8 (by kernel_rfl) rfl) (r_eqlT rfl rfl (by omega)) ?_
  refine s_run rfl rfl (r_pkT (v := .bool _) rfl rfl) ?_
  refine s_run rfl rfl (r_mv (v := .bool _) rfl) ?_
  refine s_run rfl (g_on 14 (by kernel_rfl) rfl) (r_mv (v := .slice _ _ _) rfl) ?_
  refine s_run rfl (g_on 14 (by kernel_rfl) rfl) (r_ix1 (i := 3) rfl rfl (by omega) (by omega) Try.underlying25 sz22) ?_
  refine s_run rfl (g_on 14 (by kernel_rfl) rfl) (r_lv (z := 0) H 0 rfl rfl rfl ag22) ?_
  refine s_run rfl (g_on 14 (by kernel_rfl) rfl) (r_eqlT rfl rfl (by omega)) ?_
  refine s_run rfl rfl (r_pkT (v := .bool _) rfl rfl) ?_
  refine s_run rfl rfl (r_mv (v := .bool _) rfl) ?_
  refine s_run rfl (g_on 20 (by kernel_rfl) rfl) (r_mv (v := .slice _ _ _) rfl) ?_
  refine s_run rfl (g_on 20 (by kernel_rfl) rfl) (r_ix1 (i := 0) rfl rfl (by omega) (by omega) Try.underlying25 sz22) ?_
  refine s_run rfl (g_on 20 (by kernel_rfl) rfl) (r_lv (z := 13905993476890996) H 0 rfl rfl rfl ag22) ?_
  refine s_run rfl (g_on 20 (by kernel_rfl) rfl) (r_eqlT rfl rfl (by omega)) ?_
  refine s_run rfl rfl (r_pkT (v := .bool _) rfl rfl) ?_
  refine s_run rfl rfl (r_mv (v := .bool _) rfl) ?_
  refine s_run rfl rfl (r_pkT (v := .bool _) rfl rfl) ?_
  refine s_run rfl rfl (r_as (v := .bool _) rfl) ?_
  refine k_nil ?_
  refine c_norm ?_
  refine k_ret ?_
  refine fin1r (v := .bool _) rfl rfl ?_
  exact ⟨rfl, H.only⟩
end Go.Proofs.Ytmekhdclnhhhbaa
end

section
namespace Go.Proofs.Ytmekhdclnhhhbaa
open Go.RowKit
set_option linter.unusedVariables false
theorem RowAt.str {W : World} {A : Option Addr} {n c B : Nat} {xs : List Int} (h : RowAt W B A n (xs.map (Value.int .u8))) :
    (convert 49 9 (.slice A n c)).run Try.prog W = .ok (.string (strOfNums xs)) W := by
  have hl : xs.length = n := by simpa using h.1
  rcases Nat.eq_zero_or_pos n with h0 | h0
  · subst h0
    obtain rfl : xs = [] := List.eq_nil_of_length_eq_zero hl
    cases A with
    | none => exact run_convert_bytes_nil W _ _ Try.underlying49 Try.underlying5 _ _ _ Try.underlying9
    | some a =>
      rw [run_convert_bytes_string W _ _ _ _ 0 c Try.underlying49 Try.underlying5 Try.underlying9, run_bytesToString W _ 0 c [] (by rfl), foldl_push_bytes]
      simp [strOfNums, ByteArray.empty, ByteArray.emptyWithCapacity]
      rfl
  · obtain ⟨b, off, rfl, hb, hc⟩ := h.2 h0
    refine run_convert_bytes_arg W _ _ Try.underlying49 Try.underlying5 b off n c xs hl ?_ _ Try.underlying9
    intro i hi
    refine hc i _ ?_
    rw [List.getElem?_map, List.getD_eq_getElem?_getD, List.getElem?_eq_getElem (by omega)]
    rfl
/-- v reads as this text, in each later world -/
def Txt (W : World) (v : Value) (xs : List Int) : Prop := ∀ W' : World, Below W.heap.size W W' → (convert 49 9 v).run Try.prog W' = .ok (.string (strOfNums xs)) W'
theorem Txt.of_row {W : World} {A : Option Addr} {n c : Nat} {xs : List Int} (h : RowAt W W.heap.size A n (xs.map (Value.int .u8))) : Txt W (.slice A n c) xs :=
  fun W' hb => (h.below hb).str
theorem Txt.of_own {W : World} {base n : Nat} {v : Value} {xs : List Int} (h : W.ownsRow base 5 1 v n (xs.map (Value.int .u8))) : Txt W v xs := by
  obtain ⟨A, c, rfl, _⟩ := own_shape h
  exact Txt.of_row (RowAt.of_own h)
theorem Txt.now {W : World} {v : Value} {xs : List Int} (h : Txt W v xs) : (convert 49 9 v).run Try.prog W = .ok (.string (strOfNums xs)) W := h W (Below.refl _ _)
theorem Txt.later {W W' : World} {v : Value} {xs : List Int} (h : Txt W v xs) (hb : Below W.heap.size W W') : Txt W' v xs :=
  fun W2 h2 => h W2 (hb.trans (h2.mono hb.size))
end Go.Proofs.Ytmekhdclnhhhbaa
end

section
namespace Go.Proofs.Ytmekhdclnhhhbaa
set_option linter.unusedSimpArgs false
set_option linter.unusedVariables false
open Go.RowKit
theorem r_str {n : Nat} {f : Nat → Value} {W : World} {dst : Option Tmp} {ty : TypeId} {pos : String} {af : Array Edge} {g : Option (Nat × Bool)} {x : Operand} {A : Option Addr} {m c : Nat} {xs : List Int}
    (hx : ev n f x = .slice A m c) (hz : Sees (Value.int .u8) W [] A xs) (hl : xs.length = m) :
    (execOp (ev n f) ⟨dst, .convert 49 9 x, ty, pos, af, g⟩).run Try.prog W = .ok (.value (.string (strOfNums xs))) W := by
  simp only [execOp, hx, Sem.run_bind, (hz.row hl).str, Result.andThen_ok]; rfl
section
variable {P : Program} {n : Nat} {f : Nat → Value} {W : World} {dst : Option Tmp} {ty : TypeId} {pos : String} {af : Array Edge} {g : Option (Nat × Bool)} {x y : Operand} {t t2 : TypeId} {a b : ByteArray}
theorem r_seq (hx : ev n f x = .string a) (hy : ev n f y = .string b) (h : a = b) (ht : P.underlying t = some .string) :
    (execOp (ev n f) ⟨dst, .binOp .eql t x y t2, ty, pos, af, g⟩).run P W = .ok (.value (.bool true)) W := by
  subst h
  have h1 : (eqGuard .eql t x y (.string a) (.string a)).run P W = .ok () W := by simp [eqGuard]
  have h2 : (binOp .eql t (.string a) (.string a)).run P W = .ok (.bool true) W := by
    simp [binOp, Op.stringOp]
  simp only [execOp, hx, hy, Sem.run_bind, h1, h2, Result.andThen_ok]
  rfl
end
end Go.Proofs.Ytmekhdclnhhhbaa
end

section
namespace Go.Proofs.Ytmekhdclnhhhbaa
open Go.RowKit
set_option linter.unusedSimpArgs false
set_option linter.unusedVariables false
end Go.Proofs.Ytmekhdclnhhhbaa
end
