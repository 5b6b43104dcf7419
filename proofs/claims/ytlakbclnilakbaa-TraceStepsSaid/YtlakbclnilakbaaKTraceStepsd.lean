/- Parts of the proof, one behind the other. -/
import Derived.DeepKeys4
import Derived.Shelf.Sort.Plain
import Derived.Shelf.Slices.In.SortNone
import Derived.Sort.OwnSortedInts
import Derived.Test.YtlakbclnilakbaaKTraceStepsc
set_option linter.unusedSimpArgs false
set_option linter.unusedVariables false
set_option linter.unusedSectionVars false
section
namespace Go.Proofs.Ytlakbclnilakbaa
open Go.RowKit
set_option maxRecDepth 100000
set_option maxHeartbeats 4000000
/-- headers are read where they lie -/
def HSees (w : World) (F : List Nat) (A : Option Addr) (hs : List Ob.H3) : Prop := hs.length ≠ 0 → ∃ b o, A = some ⟨b, o, none⟩ ∧ b ∉ F ∧ ∀ i h, hs[i]? = some h → Reads (fun v : Value => v) w b (o + i * 3) [.int .i64 h.1, .int .i64 h.2.1, .int .i64 h.2.2]
theorem HSees.later {w W : World} {F G : List Nat} {A : Option Addr} {hs : List Ob.H3} (h : HSees w F A hs) (hO : Only G w W) (hG : ∀ i ∈ G, i ∈ F) : HSees W F A hs := fun h0 => by
 obtain ⟨b, o, e, hb, hr⟩ := h h0
 exact ⟨b, o, e, hb, fun i x hi => (hr i x hi).later hO (fun hm => hb (hG b hm))⟩
theorem HSees.mono {w : World} {F G : List Nat} {A : Option Addr} {hs : List Ob.H3} (h : HSees w F A hs) (hG : ∀ i ∈ G, i ∈ F) : HSees w G A hs := fun h0 => by
 obtain ⟨b, o, e, hb, hr⟩ := h h0
 exact ⟨b, o, e, fun hm => hb (hG b hm), hr⟩
def hsW (hs : List Ob.H3) : Prop := ∀ h ∈ hs, (-9223372036854775808 ≤ h.2.2 ∧ h.2.2 ≤ 9223372036854775807)
theorem bWhole (A : Option Addr) (n c : Nat) (hs : List Ob.H3) (b : Nat) (w : World) (hS : HSees w [] A hs) (hl : hs.length = n) (hn : n ≤ 1000000) (hb : b ≤ 1000000) (hW : hsW hs) :
  Calls Try.prog 115 [.slice A n c, .int .i64 b].toArray w fun e w' => e = .returned (.tuple [.int .i64 (Ob.wlen hs b), .bool (Ob.whole hs b)].toArray) ∧ Only [] w w' := by
 have H := Heap.nil w
 by_cases hlt : b < n
 ·obtain ⟨h, hh⟩ : ∃ h, hs[b]? = some h := ⟨_, List.getElem?_eq_getElem (by omega)⟩
  have hwb := hW h (List.mem_of_getElem? hh)
  obtain ⟨q, o, rfl, _, hrd⟩ := hS (by omega)
  have hre := hrd b h hh
  have c0 := hre 0 _ rfl
  have c2 := hre 2 _ rfl
  by_cases hk : h.1 = 2
  ·by_cases hr : 1 ≤ h.2.2 ∧ h.2.2 ≤ (n : Int) - b
   ·obtain ⟨m, hm⟩ : ∃ m : Nat, h.2.2 = m := ⟨h.2.2.toNat, by omega⟩
    have hwh : Ob.whole hs b = Ob.wholeTo hs b m := by
     unfold Ob.whole; rw [hh]; simp only [hl]; rw [decide_eq_true hk, decide_eq_true hr, hm, Int.toNat_natCast]; rfl
    have hwl : Ob.wlen hs b = if Ob.wholeTo hs b m = true then (m : Int) else 0 := by
     unfold Ob.wlen; rw [hwh, hh]; simp only [hm]
    rw [hwl, hwh]
    rw [hm] at c2
    refine k_in (N := 54) Try.func115 rfl rfl rfl ?_
    refine k_sg ?_
    refine s_run rfl rfl (rai rfl) ?_
    refine s_run rfl rfl (rab rfl) ?_
    refine k_nc ?_
    refine k_seq ?_
    refine k_sg ?_
    refine s_run rfl rfl (rmi rfl) ?_
    refine s_run rfl rfl (r_lssF rfl rfl (by omega)) ?_
    refine s_run rfl rfl (rmb rfl) ?_
    refine s_run rfl (g_on 10 (by kernel_rfl) rfl) (rmi rfl) ?_
    refine s_run rfl (g_on 10 (by kernel_rfl) rfl) (rms rfl) ?_
    refine s_run rfl (g_on 10 (by kernel_rfl) rfl) (r_len rfl Try.underlying49) ?_
    refine s_run rfl (g_on 10 (by kernel_rfl) rfl) (r_geqF rfl rfl (by omega)) ?_
    refine s_run rfl rfl (r_pkF (v := .bool _) rfl rfl) ?_
    refine s_run rfl rfl (rmb rfl) ?_
    refine s_run rfl (g_on 16 (by kernel_rfl) rfl) (rms rfl) ?_
    refine s_run rfl (g_on 16 (by kernel_rfl) rfl) (rmi rfl) ?_
    refine s_run rfl (g_on 16 (by kernel_rfl) rfl) (r_ix (i := b) rfl rfl (by omega) (by omega) Try.underlying49 sz102) ?_
    refine s_run rfl (g_on 16 (by kernel_rfl) rfl) (r_fa rfl fo102_0) ?_
    refine s_run rfl (g_on 16 (by kernel_rfl) rfl) (r_lr H rfl c0 (by simp) ag3) ?_
    refine s_run rfl (g_on 16 (by kernel_rfl) rfl) (r_neqF rfl rfl (by omega)) ?_
    refine s_run rfl rfl (r_pkF (v := .bool _) rfl rfl) ?_
    refine k_nc ?_
    refine k_f rfl ?_
    refine k_skip ?_
    refine c_norm ?_
    refine k_sg ?_
    refine s_run rfl rfl (rms rfl) ?_
    refine s_run rfl rfl (rmi rfl) ?_
    refine s_run rfl rfl (r_ix (i := b) rfl rfl (by omega) (by omega) Try.underlying49 sz102) ?_
    refine s_run rfl rfl (r_fa rfl fo102_2) ?_
    refine s_run rfl rfl (r_lr H rfl c2 (by simp) ag3) ?_
    refine s_run rfl rfl (rai rfl) ?_
    refine k_nc ?_
    refine k_seq ?_
    refine k_sg ?_
    refine s_run rfl rfl (rmi rfl) ?_
    refine s_run rfl rfl (r_lssF rfl rfl (by omega)) ?_
    refine s_run rfl rfl (rmb rfl) ?_
    refine s_run rfl (g_on 31 (by kernel_rfl) rfl) (rmi rfl) ?_
    refine s_run rfl (g_on 31 (by kernel_rfl) rfl) (rms rfl) ?_
    refine s_run rfl (g_on 31 (by kernel_rfl) rfl) (r_len rfl Try.underlying49) ?_
    refine s_run rfl (g_on 31 (by kernel_rfl) rfl) (rmi rfl) ?_
    refine s_run rfl (g_on 31 (by kernel_rfl) rfl) (r_sub rfl rfl (wI (by omega))) ?_
    refine s_run rfl (g_on 31 (by kernel_rfl) rfl) (r_gtrF rfl rfl (by omega)) ?_
    refine s_run rfl rfl (r_pkF (v := .bool _) rfl rfl) ?_
    refine k_nc ?_
    refine k_f rfl ?_
    refine k_skip ?_
    refine c_norm ?_
    refine k_seq ?_
    refine k_sg ?_
    refine s_run rfl rfl (rai rfl) ?_
    refine k_nc ?_
    refine k_b ?_
    refine k_loop (fun z f W => ∃ (i : Nat), 1 ≤ i ∧ i ≤ m ∧ z = m - i ∧ Ob.wholeTo hs b i = true ∧ f 0 = .slice (some ⟨q, o, none⟩) n c ∧ f 1 = .int .i64 b ∧ f 6 = .int .i64 m ∧ f 7 = .int .i64 i ∧ Heap w [] [] W) (m - 1) ⟨1, by omega, by omega, rfl, rfl, rfl, rfl, rfl, rfl, H⟩ ?_
    clear H
    rintro z f W ⟨i, hi1, hi, rfl, hwt, f0, f1, f6, f7, H⟩
    obtain ⟨f, rfl⟩ := live4 f0 f1 f6 f7
    clear f0 f1 f6 f7
    by_cases hit : i < m
    ·obtain ⟨y, hy⟩ : ∃ y, hs[b + i]? = some y := ⟨_, List.getElem?_eq_getElem (by omega)⟩
     have hry := hrd (b + i) y hy
     obtain ⟨y1, y2, y3⟩ := y
     have hsu := Ob.wholeTo_succ hs b i
     rw [hwt, Bool.true_and, decide_eq_false (by omega : ¬ i = 0), Bool.false_or, hy] at hsu
     by_cases e : y1 = 3 ∧ y2 = 0 ∧ y3 = i
     ·obtain ⟨rfl, rfl, rfl⟩ := e
      rw [decide_eq_true rfl] at hsu
      refine k_seq ?_
      refine k_sg ?_
      refine s_run rfl rfl (rmi rfl) ?_
      refine s_run rfl rfl (rmi rfl) ?_
      refine s_run rfl rfl (r_lssT rfl rfl (by omega)) ?_
      refine k_nc ?_
      refine k_t rfl ?_
      refine k_skip ?_
      refine c_norm ?_
      refine k_seq ?_
      refine k_b ?_
      refine k_sg ?_
      refine s_run rfl rfl (rms rfl) ?_
      refine s_run rfl rfl (rmi rfl) ?_
      refine s_run rfl rfl (rmi rfl) ?_
      refine s_run rfl rfl (r_add rfl rfl (wI (by omega))) ?_
      refine s_run rfl rfl (r_ix (i := (b + i)) rfl rfl (by omega) (by omega) Try.underlying49 sz102) ?_
      refine s_run rfl rfl (r_lA (enc := fun v : Value => v) (zs := [.int .i64 3, .int .i64 0, .int .i64 i]) (hry.later H.only (by simp)) rfl rfl ag102 sz102) ?_
      refine s_run rfl rfl (rmi rfl) ?_
      refine s_run rfl rfl (r_bd (bd102_0_2 _ _) rfl) ?_
      refine s_run rfl rfl (r_s3n (q := false) rfl rfl (by kernel_rfl) (by kernel_rfl) (by kernel_rfl) (by kernel_rfl) Try.underlying3 Try.underlying3 Try.underlying3 (by simp)) ?_
      refine k_nc ?_
      refine k_f rfl ?_
      refine k_skip ?_
      refine b_norm ?_
      refine c_norm ?_
      refine k_rg ?_
      refine s_run rfl rfl (rmi rfl) ?_
      refine s_run rfl rfl (r_add rfl rfl (wI (by omega))) ?_
      refine s_run rfl rfl (rai rfl) ?_
      refine k_nil ?_
      refine c_round ?_
      exact ⟨_, _, by omega, rfl, i + 1, by omega, by omega, rfl, hsu, rfl, rfl, rfl, rfl, H⟩
     ·have hne : ¬ Ob.wholeTo hs b m = true := fun hm2 => by
       have h1 := Ob.wholeTo_mono hm2 (show i + 1 ≤ m by omega)
       rw [hsu] at h1
       have h2 := of_decide_eq_true h1
       injection h2 with h2
       injection h2 with h2 h3
       injection h3 with h3 h4
       exact e ⟨h2, h3, h4⟩
      have hfa : Ob.wholeTo hs b m = false := by simpa using hne
      rw [if_neg hne, hfa]
      refine k_seq ?_
      refine k_sg ?_
      refine s_run rfl rfl (rmi rfl) ?_
      refine s_run rfl rfl (rmi rfl) ?_
      refine s_run rfl rfl (r_lssT rfl rfl (by omega)) ?_
      refine k_nc ?_
      refine k_t rfl ?_
      refine k_skip ?_
      refine c_norm ?_
      refine k_seq ?_
      refine k_b ?_
      refine k_sg ?_
      refine s_run rfl rfl (rms rfl) ?_
      refine s_run rfl rfl (rmi rfl) ?_
      refine s_run rfl rfl (rmi rfl) ?_
      refine s_run rfl rfl (r_add rfl rfl (wI (by omega))) ?_
      refine s_run rfl rfl (r_ix (i := (b + i)) rfl rfl (by omega) (by omega) Try.underlying49 sz102) ?_
      refine s_run rfl rfl (r_lA (enc := fun v : Value => v) (zs := [.int .i64 y1, .int .i64 y2, .int .i64 y3]) (hry.later H.only (by simp)) rfl rfl ag102 sz102) ?_
      refine s_run rfl rfl (rmi rfl) ?_
      refine s_run rfl rfl (r_bd (bd102_0_2 _ _) rfl) ?_
      refine s_run rfl rfl (r_s3n (q := true) rfl rfl (by kernel_rfl) (by kernel_rfl) (by kernel_rfl) (by kernel_rfl) Try.underlying3 Try.underlying3 Try.underlying3 (by simpa using e)) ?_
      refine k_nc ?_
      refine k_t rfl ?_
      refine k_sg ?_
      refine s_run rfl rfl (rai rfl) ?_
      refine s_run rfl rfl (rab rfl) ?_
      refine k_nc ?_
      refine k_ret ?_
      refine b_ret ?_
      refine c_ret ?_
      refine c_ret ?_
      refine b_ret ?_
      refine c_ret ?_
      refine fin2r (v := .int _ _) (v2 := .bool _) rfl rfl rfl ?_
      exact ⟨rfl, H.only⟩
    ·obtain rfl : i = m := by omega
     rw [if_pos hwt, hwt]
     refine k_seq ?_
     refine k_sg ?_
     refine s_run rfl rfl (rmi rfl) ?_
     refine s_run rfl rfl (rmi rfl) ?_
     refine s_run rfl rfl (r_lssF rfl rfl (by omega)) ?_
     refine k_nc ?_
     refine k_f rfl ?_
     refine k_exit ?_
     refine c_exit ?_
     refine c_exit ?_
     refine b_hit ?_
     refine c_norm ?_
     refine k_sg ?_
     refine s_run rfl rfl (rmi rfl) ?_
     refine s_run rfl rfl (rai rfl) ?_
     refine s_run rfl rfl (rab rfl) ?_
     refine k_nc ?_
     refine k_ret ?_
     refine fin2r (v := .int _ _) (v2 := .bool _) rfl rfl rfl ?_
     exact ⟨rfl, H.only⟩
   ·have hwh : Ob.whole hs b = false := by
     unfold Ob.whole; rw [hh]; simp only [hl]; rw [decide_eq_false hr]; simp
    have hwl : Ob.wlen hs b = 0 := by unfold Ob.wlen; rw [hwh]; rfl
    rw [hwl, hwh]
    by_cases h1 : h.2.2 < 1
    ·refine k_in (N := 54) Try.func115 rfl rfl rfl ?_
     refine k_sg ?_
     refine s_run rfl rfl (rai rfl) ?_
     refine s_run rfl rfl (rab rfl) ?_
     refine k_nc ?_
     refine k_seq ?_
     refine k_sg ?_
     refine s_run rfl rfl (rmi rfl) ?_
     refine s_run rfl rfl (r_lssF rfl rfl (by omega)) ?_
     refine s_run rfl rfl (rmb rfl) ?_
     refine s_run rfl (g_on 10 (by kernel_rfl) rfl) (rmi rfl) ?_
     refine s_run rfl (g_on 10 (by kernel_rfl) rfl) (rms rfl) ?_
     refine s_run rfl (g_on 10 (by kernel_rfl) rfl) (r_len rfl Try.underlying49) ?_
     refine s_run rfl (g_on 10 (by kernel_rfl) rfl) (r_geqF rfl rfl (by omega)) ?_
     refine s_run rfl rfl (r_pkF (v := .bool _) rfl rfl) ?_
     refine s_run rfl rfl (rmb rfl) ?_
     refine s_run rfl (g_on 16 (by kernel_rfl) rfl) (rms rfl) ?_
     refine s_run rfl (g_on 16 (by kernel_rfl) rfl) (rmi rfl) ?_
     refine s_run rfl (g_on 16 (by kernel_rfl) rfl) (r_ix (i := b) rfl rfl (by omega) (by omega) Try.underlying49 sz102) ?_
     refine s_run rfl (g_on 16 (by kernel_rfl) rfl) (r_fa rfl fo102_0) ?_
     refine s_run rfl (g_on 16 (by kernel_rfl) rfl) (r_lr H rfl c0 (by simp) ag3) ?_
     refine s_run rfl (g_on 16 (by kernel_rfl) rfl) (r_neqF rfl rfl (by omega)) ?_
     refine s_run rfl rfl (r_pkF (v := .bool _) rfl rfl) ?_
     refine k_nc ?_
     refine k_f rfl ?_
     refine k_skip ?_
     refine c_norm ?_
     refine k_sg ?_
     refine s_run rfl rfl (rms rfl) ?_
     refine s_run rfl rfl (rmi rfl) ?_
     refine s_run rfl rfl (r_ix (i := b) rfl rfl (by omega) (by omega) Try.underlying49 sz102) ?_
     refine s_run rfl rfl (r_fa rfl fo102_2) ?_
     refine s_run rfl rfl (r_lr H rfl c2 (by simp) ag3) ?_
     refine s_run rfl rfl (rai rfl) ?_
     refine k_nc ?_
     refine k_seq ?_
     refine k_sg ?_
     refine s_run rfl rfl (rmi rfl) ?_
     refine s_run rfl rfl (r_lssT rfl rfl (by omega)) ?_
     refine s_run rfl rfl (rmb rfl) ?_
     refine s_off rfl (g_off 31 (by kernel_rfl) rfl rfl) ?_
     refine s_off rfl (g_off 31 (by kernel_rfl) rfl rfl) ?_
     refine s_off rfl (g_off 31 (by kernel_rfl) rfl rfl) ?_
     refine s_off rfl (g_off 31 (by kernel_rfl) rfl rfl) ?_
     refine s_off rfl (g_off 31 (by kernel_rfl) rfl rfl) ?_
     refine s_off rfl (g_off 31 (by kernel_rfl) rfl rfl) ?_
     refine s_run rfl rfl (r_pkT (v := .bool _) rfl rfl) ?_
     refine k_nc ?_
     refine k_t rfl ?_
     refine k_sg ?_
     refine s_run rfl rfl (rai rfl) ?_
     refine s_run rfl rfl (rab rfl) ?_
     refine k_nc ?_
     refine k_ret ?_
     refine c_ret ?_
     refine fin2r (v := .int _ _) (v2 := .bool _) rfl rfl rfl ?_
     exact ⟨rfl, H.only⟩
    ·refine k_in (N := 54) Try.func115 rfl rfl rfl ?_
     refine k_sg ?_
     refine s_run rfl rfl (rai rfl) ?_
     refine s_run rfl rfl (rab rfl) ?_
     refine k_nc ?_
     refine k_seq ?_
     refine k_sg ?_
     refine s_run rfl rfl (rmi rfl) ?_
     refine s_run rfl rfl (r_lssF rfl rfl (by omega)) ?_
     refine s_run rfl rfl (rmb rfl) ?_
     refine s_run rfl (g_on 10 (by kernel_rfl) rfl) (rmi rfl) ?_
     refine s_run rfl (g_on 10 (by kernel_rfl) rfl) (rms rfl) ?_
     refine s_run rfl (g_on 10 (by kernel_rfl) rfl) (r_len rfl Try.underlying49) ?_
     refine s_run rfl (g_on 10 (by kernel_rfl) rfl) (r_geqF rfl rfl (by omega)) ?_
     refine s_run rfl rfl (r_pkF (v := .bool _) rfl rfl) ?_
     refine s_run rfl rfl (rmb rfl) ?_
     refine s_run rfl (g_on 16 (by kernel_rfl) rfl) (rms rfl) ?_
     refine s_run rfl (g_on 16 (by kernel_rfl) rfl) (rmi rfl) ?_
     refine s_run rfl (g_on 16 (by kernel_rfl) rfl) (r_ix (i := b) rfl rfl (by omega) (by omega) Try.underlying49 sz102) ?_
     refine s_run rfl (g_on 16 (by kernel_rfl) rfl) (r_fa rfl fo102_0) ?_
     refine s_run rfl (g_on 16 (by kernel_rfl) rfl) (r_lr H rfl c0 (by simp) ag3) ?_
     refine s_run rfl (g_on 16 (by kernel_rfl) rfl) (r_neqF rfl rfl (by omega)) ?_
     refine s_run rfl rfl (r_pkF (v := .bool _) rfl rfl) ?_
     refine k_nc ?_
     refine k_f rfl ?_
     refine k_skip ?_
     refine c_norm ?_
     refine k_sg ?_
     refine s_run rfl rfl (rms rfl) ?_
     refine s_run rfl rfl (rmi rfl) ?_
     refine s_run rfl rfl (r_ix (i := b) rfl rfl (by omega) (by omega) Try.underlying49 sz102) ?_
     refine s_run rfl rfl (r_fa rfl fo102_2) ?_
     refine s_run rfl rfl (r_lr H rfl c2 (by simp) ag3) ?_
     refine s_run rfl rfl (rai rfl) ?_
     refine k_nc ?_
     refine k_seq ?_
     refine k_sg ?_
     refine s_run rfl rfl (rmi rfl) ?_
     refine s_run rfl rfl (r_lssF rfl rfl (by omega)) ?_
     refine s_run rfl rfl (rmb rfl) ?_
     refine s_run rfl (g_on 31 (by kernel_rfl) rfl) (rmi rfl) ?_
     refine s_run rfl (g_on 31 (by kernel_rfl) rfl) (rms rfl) ?_
     refine s_run rfl (g_on 31 (by kernel_rfl) rfl) (r_len rfl Try.underlying49) ?_
     refine s_run rfl (g_on 31 (by kernel_rfl) rfl) (rmi rfl) ?_
     refine s_run rfl (g_on 31 (by kernel_rfl) rfl) (r_sub rfl rfl (wI (by omega))) ?_
     refine s_run rfl (g_on 31 (by kernel_rfl) rfl) (r_gtrT rfl rfl (by omega)) ?_
     refine s_run rfl rfl (r_pkF (v := .bool _) rfl rfl) ?_
     refine k_nc ?_
     refine k_t rfl ?_
     refine k_sg ?_
     refine s_run rfl rfl (rai rfl) ?_
     refine s_run rfl rfl (rab rfl) ?_
     refine k_nc ?_
     refine k_ret ?_
     refine c_ret ?_
     refine fin2r (v := .int _ _) (v2 := .bool _) rfl rfl rfl ?_
     exact ⟨rfl, H.only⟩
  ·have hwh : Ob.whole hs b = false := by
    unfold Ob.whole; rw [hh]; simp only [hl]; rw [decide_eq_false hk]; rfl
   have hwl : Ob.wlen hs b = 0 := by unfold Ob.wlen; rw [hwh]; rfl
   rw [hwl, hwh]
   refine k_in (N := 54) Try.func115 rfl rfl rfl ?_
   refine k_sg ?_
   refine s_run rfl rfl (rai rfl) ?_
   refine s_run rfl rfl (rab rfl) ?_
   refine k_nc ?_
   refine k_seq ?_
   refine k_sg ?_
   refine s_run rfl rfl (rmi rfl) ?_
   refine s_run rfl rfl (r_lssF rfl rfl (by omega)) ?_
   refine s_run rfl rfl (rmb rfl) ?_
   refine s_run rfl (g_on 10 (by kernel_rfl) rfl) (rmi rfl) ?_
   refine s_run rfl (g_on 10 (by kernel_rfl) rfl) (rms rfl) ?_
   refine s_run rfl (g_on 10 (by kernel_rfl) rfl) (r_len rfl Try.underlying49) ?_
   refine s_run rfl (g_on 10 (by kernel_rfl) rfl) (r_geqF rfl rfl (by omega)) ?_
   refine s_run rfl rfl (r_pkF (v := .bool _) rfl rfl) ?_
   refine s_run rfl rfl (rmb rfl) ?_
   refine s_run rfl (g_on 16 (by kernel_rfl) rfl) (rms rfl) ?_
   refine s_run rfl (g_on 16 (by kernel_rfl) rfl) (rmi rfl) ?_
   refine s_run rfl (g_on 16 (by kernel_rfl) rfl) (r_ix (i := b) rfl rfl (by omega) (by omega) Try.underlying49 sz102) ?_
   refine s_run rfl (g_on 16 (by kernel_rfl) rfl) (r_fa rfl fo102_0) ?_
   refine s_run rfl (g_on 16 (by kernel_rfl) rfl) (r_lr H rfl c0 (by simp) ag3) ?_
   refine s_run rfl (g_on 16 (by kernel_rfl) rfl) (r_neqT rfl rfl (by omega)) ?_
   refine s_run rfl rfl (r_pkF (v := .bool _) rfl rfl) ?_
   refine k_nc ?_
   refine k_t rfl ?_
   refine k_sg ?_
   refine s_run rfl rfl (rai rfl) ?_
   refine s_run rfl rfl (rab rfl) ?_
   refine k_nc ?_
   refine k_ret ?_
   refine c_ret ?_
   refine fin2r (v := .int _ _) (v2 := .bool _) rfl rfl rfl ?_
   exact ⟨rfl, H.only⟩
 ·have hno : hs[b]? = none := List.getElem?_eq_none (by omega)
  have hwh : Ob.whole hs b = false := by unfold Ob.whole; rw [hno]
  have hwl : Ob.wlen hs b = 0 := by unfold Ob.wlen; rw [hwh]; rfl
  rw [hwl, hwh]
  refine k_in (N := 54) Try.func115 rfl rfl rfl ?_
  refine k_sg ?_
  refine s_run rfl rfl (rai rfl) ?_
  refine s_run rfl rfl (rab rfl) ?_
  refine k_nc ?_
  refine k_seq ?_
  refine k_sg ?_
  refine s_run rfl rfl (rmi rfl) ?_
  refine s_run rfl rfl (r_lssF rfl rfl (by omega)) ?_
  refine s_run rfl rfl (rmb rfl) ?_
  refine s_run rfl (g_on 10 (by kernel_rfl) rfl) (rmi rfl) ?_
  refine s_run rfl (g_on 10 (by kernel_rfl) rfl) (rms rfl) ?_
  refine s_run rfl (g_on 10 (by kernel_rfl) rfl) (r_len rfl Try.underlying49) ?_
  refine s_run rfl (g_on 10 (by kernel_rfl) rfl) (r_geqT rfl rfl (by omega)) ?_
  refine s_run rfl rfl (r_pkF (v := .bool _) rfl rfl) ?_
  refine s_run rfl rfl (rmb rfl) ?_
  refine s_off rfl (g_off 16 (by kernel_rfl) rfl rfl) ?_
  refine s_off rfl (g_off 16 (by kernel_rfl) rfl rfl) ?_
  refine s_off rfl (g_off 16 (by kernel_rfl) rfl rfl) ?_
  refine s_off rfl (g_off 16 (by kernel_rfl) rfl rfl) ?_
  refine s_off rfl (g_off 16 (by kernel_rfl) rfl rfl) ?_
  refine s_off rfl (g_off 16 (by kernel_rfl) rfl rfl) ?_
  refine s_run rfl rfl (r_pkT (v := .bool _) rfl rfl) ?_
  refine k_nc ?_
  refine k_t rfl ?_
  refine k_sg ?_
  refine s_run rfl rfl (rai rfl) ?_
  refine s_run rfl rfl (rab rfl) ?_
  refine k_nc ?_
  refine k_ret ?_
  refine c_ret ?_
  refine fin2r (v := .int _ _) (v2 := .bool _) rfl rfl rfl ?_
  exact ⟨rfl, H.only⟩
theorem obPlaced {g : Geo} {d : Nv.D} {w : World} (hE : Ents (devL g d) w) (hw : Ob.W64 d.cache) (hl : d.cache.length ≤ 1000000000) (A : Option Addr) (k c : Nat) (hs : List Ob.H3) (hS : HSees w [] A hs) (hk : hs.length = k) (hk2 : k ≤ 1000000) (hW : hsW hs) (n : Nat) (hn : n ≤ 1000000) (a : Int) (ha : -9223372036854775808 ≤ a ∧ a ≤ 9223372036854775807) :
  Calls Try.prog 90 [ptr g.p, .agg [.int .i64 n].toArray, .slice A k c, .int .i64 a].toArray w fun e w' => (∃ P D : Int, e = .returned (.tuple [.agg [.int .i64 P, .int .i64 D].toArray, .bool (Ob.pl n d.cache hs a)].toArray) ∧ (Ob.pl n d.cache hs a = true → P = Ob.hp d.cache a ∧ D = Ob.hq d.cache a)) ∧ Only [] w w' := by
 have HR := Heap.start hE
 have H := Heap.nil w
 have hB := fun (W : World) => gBlockOf' n a W (by omega) ha
 by_cases hin : 512 ≤ a ∧ a < 512 * (n : Int)
 ·obtain ⟨b, hb⟩ : ∃ b : Nat, a / 512 = b := ⟨(a / 512).toNat, by omega⟩
  have hbo : blockOf n a = b := by unfold blockOf; rw [if_pos (by omega)]; exact hb
  rw [hbo] at hB
  by_cases hbk : b < k
  ·obtain ⟨h, hh⟩ : ∃ h, hs[b]? = some h := ⟨_, List.getElem?_eq_getElem (by omega)⟩
   have hHd := fun {W : World} (h : Only [] w W) => obHead (HR.same h).ents hw hl a ha
   cases hd : Ob.hd d.cache a with
   | false =>
    have hp : Ob.pl n d.cache hs a = false := by unfold Ob.pl; rw [hd]; simp
    have he : Ob.he d.cache a = 22 := by unfold Ob.he; rw [hd]; rfl
    rw [hp]
    rw [he] at hHd
    refine k_in (N := 87) Try.func90 rfl rfl rfl ?_
    refine k_sg ?_
    refine s_box H rfl rfl ?_
    intro p5 _ H'; clear H; have H := H'; clear H'
    refine s_al H rfl inf149 ?_
    intro p8 _ H'; clear H; have H := H'; clear H'
    refine s_run rfl rfl (rab rfl) ?_
    refine k_nc ?_
    refine k_sg ?_
    refine s_run rfl rfl (r_la H 1 rfl rfl rfl ag48 sz48) ?_
    refine s_run rfl rfl (rmi rfl) ?_
    refine s_call rfl (hB _) (ca112 rfl) ?_
    rintro e W1 ⟨rfl, H'⟩
    refine ⟨_, rfl, ?_⟩
    have H := H.same H'; clear H'
    refine s_run rfl rfl (rai rfl) ?_
    refine k_nc ?_
    refine k_seq ?_
    refine k_sg ?_
    refine s_run rfl rfl (rmi rfl) ?_
    refine s_run rfl rfl (r_lssF rfl rfl (by omega)) ?_
    refine s_run rfl rfl (rmb rfl) ?_
    refine s_run rfl (g_on 25 (by kernel_rfl) rfl) (rmi rfl) ?_
    refine s_run rfl (g_on 25 (by kernel_rfl) rfl) (rms rfl) ?_
    refine s_run rfl (g_on 25 (by kernel_rfl) rfl) (r_len rfl Try.underlying49) ?_
    refine s_run rfl (g_on 25 (by kernel_rfl) rfl) (r_geqF rfl rfl (by omega)) ?_
    refine s_run rfl rfl (r_pkF (v := .bool _) rfl rfl) ?_
    refine k_nc ?_
    refine k_f rfl ?_
    refine k_skip ?_
    refine c_norm ?_
    refine k_sg ?_
    refine s_run rfl rfl (rmp rfl) ?_
    refine s_run rfl rfl (rmi rfl) ?_
    refine s_call rfl (hHd H.only) (ca91 rfl) ?_
    rintro e W1 ⟨rfl, H'⟩
    refine ⟨_, rfl, ?_⟩
    have H := H.same H'; clear H'
    refine s_run rfl rfl (rmt rfl) ?_
    refine s_run rfl rfl (r_ext (v := .agg _) rfl rfl) ?_
    refine s_run rfl rfl (r_ext (v := .int _ _) rfl rfl) ?_
    refine s_al H rfl inf149 ?_
    intro p11 _ H'; clear H; have H := H'; clear H'
    refine s_sw H 0 rfl rfl rfl rfl rfl rfl rfl sz149 ?_
    clear H; intro _ H; simp only [jA, jB, jC, jD, jE, jF, jG, jH, jI, jJ, jK, Nat.reduceAdd] at H
    refine s_run rfl rfl (rai rfl) ?_
    refine k_nc ?_
    refine k_seq ?_
    refine k_sg ?_
    refine s_run rfl rfl (rmi rfl) ?_
    refine s_run rfl rfl (r_neqT rfl rfl (by omega)) ?_
    refine k_nc ?_
    refine k_t rfl ?_
    refine k_sg ?_
    refine s_run rfl rfl (r_bd (bd149 ) rfl) ?_
    refine s_sw H 1 rfl rfl rfl rfl rfl rfl rfl sz149 ?_
    clear H; intro _ H; simp only [jA, jB, jC, jD, jE, jF, jG, jH, jI, jJ, jK, Nat.reduceAdd] at H
    refine s_run rfl rfl (rab rfl) ?_
    refine k_nc ?_
    refine k_ret ?_
    refine c_ret ?_
    refine fx2r rfl (rv_a H 1 rfl rfl rfl ag149 sz149) (rv_t (v := .bool _) rfl) ?_
    exact ⟨⟨0, 0, rfl, fun h => by cases h⟩, H.only⟩
   | true =>
    have hpq := Ob.hp_bd hw a
    have he : Ob.he d.cache a = 0 := by unfold Ob.he; rw [hd]; rfl
    rw [he] at hHd
    have hp : Ob.pl n d.cache hs a = Ob.plAt n d.cache hs a h := by
     unfold Ob.pl; rw [hd, decide_eq_true hin, hb, Int.toNat_natCast, hh]; rfl
    rw [hp]
    obtain ⟨q, o, rfl, _, hrd⟩ := hS (by omega)
    have hre := hrd b h hh
    have hSm := fun (W : World) => oSmall' (Ob.hp d.cache a) (Ob.hq d.cache a) W (by omega) (by omega)
    have hsb := Cl.size_bd (Ob.hp d.cache a) (Ob.hq d.cache a)
    unfold Ob.plAt
    generalize hP : Ob.hp d.cache a = P at *
    generalize hQ : Ob.hq d.cache a = Q at *
    have hBl := fun (W : World) => oBlocks' P Q W (by omega) (by omega)
    have hFi := fun (W : World) => gFirst' n b W (by omega) (by omega)
    generalize Cl.size P Q = sz at *
    cases hob : Cl.ofB sz with
    | true =>
     have hkb := Cl.ofK_bd sz
     generalize Cl.ofK sz = kk at *
     have hAt := fun (W : World) => cAt' n kk a W (by omega) hin (by omega)
     rw [hob] at hSm
     rw [if_pos rfl]
     rw [hb] at hAt ⊢
     cases hat : (Ce.address n kk b (a % 512 / Cl.words kk) == a) with
     | true =>
      rw [hat] at hAt
      rw [Bool.true_and]
      obtain ⟨h1, h2, h3⟩ := h
      have hde : decide (h1 = 1 ∧ h2 = kk ∧ h3 = 0) = decide ((h1, h2, h3) = (1, kk, 0)) := by
       rw [decide_eq_decide]; simp
      refine k_in (N := 87) Try.func90 rfl rfl rfl ?_
      refine k_sg ?_
      refine s_box H rfl rfl ?_
      intro p5 _ H'; clear H; have H := H'; clear H'
      refine s_al H rfl inf149 ?_
      intro p8 _ H'; clear H; have H := H'; clear H'
      refine s_run rfl rfl (rab rfl) ?_
      refine k_nc ?_
      refine k_sg ?_
      refine s_run rfl rfl (r_la H 1 rfl rfl rfl ag48 sz48) ?_
      refine s_run rfl rfl (rmi rfl) ?_
      refine s_call rfl (hB _) (ca112 rfl) ?_
      rintro e W1 ⟨rfl, H'⟩
      refine ⟨_, rfl, ?_⟩
      have H := H.same H'; clear H'
      refine s_run rfl rfl (rai rfl) ?_
      refine k_nc ?_
      refine k_seq ?_
      refine k_sg ?_
      refine s_run rfl rfl (rmi rfl) ?_
      refine s_run rfl rfl (r_lssF rfl rfl (by omega)) ?_
      refine s_run rfl rfl (rmb rfl) ?_
      refine s_run rfl (g_on 25 (by kernel_rfl) rfl) (rmi rfl) ?_
      refine s_run rfl (g_on 25 (by kernel_rfl) rfl) (rms rfl) ?_
      refine s_run rfl (g_on 25 (by kernel_rfl) rfl) (r_len rfl Try.underlying49) ?_
      refine s_run rfl (g_on 25 (by kernel_rfl) rfl) (r_geqF rfl rfl (by omega)) ?_
      refine s_run rfl rfl (r_pkF (v := .bool _) rfl rfl) ?_
      refine k_nc ?_
      refine k_f rfl ?_
      refine k_skip ?_
      refine c_norm ?_
      refine k_sg ?_
      refine s_run rfl rfl (rmp rfl) ?_
      refine s_run rfl rfl (rmi rfl) ?_
      refine s_call rfl (hHd H.only) (ca91 rfl) ?_
      rintro e W1 ⟨rfl, H'⟩
      refine ⟨_, rfl, ?_⟩
      have H := H.same H'; clear H'
      refine s_run rfl rfl (rmt rfl) ?_
      refine s_run rfl rfl (r_ext (v := .agg _) rfl rfl) ?_
      refine s_run rfl rfl (r_ext (v := .int _ _) rfl rfl) ?_
      refine s_al H rfl inf149 ?_
      intro p11 _ H'; clear H; have H := H'; clear H'
      refine s_sw H 0 rfl rfl rfl rfl rfl rfl rfl sz149 ?_
      clear H; intro _ H; simp only [jA, jB, jC, jD, jE, jF, jG, jH, jI, jJ, jK, Nat.reduceAdd] at H
      refine s_run rfl rfl (rai rfl) ?_
      refine k_nc ?_
      refine k_seq ?_
      refine k_sg ?_
      refine s_run rfl rfl (rmi rfl) ?_
      refine s_run rfl rfl (r_neqF rfl rfl (by omega)) ?_
      refine k_nc ?_
      refine k_f rfl ?_
      refine k_skip ?_
      refine c_norm ?_
      refine k_sg ?_
      refine s_run rfl rfl (rms rfl) ?_
      refine s_run rfl rfl (rmi rfl) ?_
      refine s_run rfl rfl (r_ix (i := b) rfl rfl (by omega) (by omega) Try.underlying49 sz102) ?_
      refine s_run rfl rfl (r_lA (enc := fun v : Value => v) (zs := [.int .i64 h1, .int .i64 h2, .int .i64 h3]) (hre.later H.only (by simp)) rfl rfl ag102 sz102) ?_
      refine s_al H rfl inf102 ?_
      intro p13 _ H'; clear H; have H := H'; clear H'
      refine s_sw H 0 rfl rfl rfl rfl rfl rfl rfl sz102 ?_
      clear H; intro _ H; simp only [jA, jB, jC, jD, jE, jF, jG, jH, jI, jJ, jK, Nat.reduceAdd] at H
      refine k_nc ?_
      refine k_sg ?_
      refine s_run rfl rfl (r_la H 1 rfl rfl rfl ag149 sz149) ?_
      refine s_call rfl (hSm _) (ca113 rfl) ?_
      rintro e W1 ⟨rfl, H'⟩
      refine ⟨_, rfl, ?_⟩
      have H := H.same H'; clear H'
      refine s_run rfl rfl (rmt rfl) ?_
      refine s_run rfl rfl (r_ext (v := .int _ _) rfl rfl) ?_
      refine s_run rfl rfl (r_ext (v := .bool _) rfl rfl) ?_
      refine s_run rfl rfl (rai rfl) ?_
      refine s_run rfl rfl (rab rfl) ?_
      refine k_nc ?_
      refine k_seq ?_
      refine k_sg ?_
      refine s_run rfl rfl (rmb rfl) ?_
      refine k_nc ?_
      refine k_t rfl ?_
      refine k_sg ?_
      refine s_run rfl rfl (r_la H 3 rfl rfl rfl ag48 sz48) ?_
      refine s_run rfl rfl (rmi rfl) ?_
      refine s_run rfl rfl (rmi rfl) ?_
      refine s_call rfl (hAt _) (ca114 rfl) ?_
      rintro e W1 ⟨rfl, H'⟩
      refine ⟨_, rfl, ?_⟩
      have H := H.same H'; clear H'
      refine s_run rfl rfl (rmt rfl) ?_
      refine s_run rfl rfl (r_ext (v := .agg _) rfl rfl) ?_
      refine s_run rfl rfl (r_ext (v := .bool _) rfl rfl) ?_
      refine s_al H rfl inf173 ?_
      intro p16 _ H'; clear H; have H := H'; clear H'
      refine s_sw H 0 rfl rfl rfl rfl rfl rfl rfl sz173 ?_
      clear H; intro _ H; simp only [jA, jB, jC, jD, jE, jF, jG, jH, jI, jJ, jK, Nat.reduceAdd] at H
      refine s_run rfl rfl (rab rfl) ?_
      refine k_nc ?_
      refine k_seq ?_
      refine k_trF mixed ?_; have H' := H.drew; clear H; have H := H'; clear H'
      refine tqh 1 rfl rfl rfl (fun _ hS => r_mv (v := .bool _) rfl) trivial ?_
      refine tqh 2 rfl rfl rfl (fun _ hS => r_mv (v := .bool _) rfl) trivial ?_
      refine tqh 4 rfl rfl (g_on 60 (by kernel_rfl) rfl) (fun _ hS => r_mv (v := .int _ _) rfl) trivial ?_
      refine tqh 5 rfl rfl (g_on 60 (by kernel_rfl) rfl) (fun _ hS => r_bd (bd102_0_1 _ _) rfl) trivial ?_
      refine t_up2 0 3 (by kernel_rfl) ?_ ?_
      ·refine up_mk rfl ?_
       refine s_run rfl rfl (r_la H 2 rfl rfl rfl ag149 sz149) ?_
       refine k_nil ?_
       refine t_on trivial ?_
       refine t_up2 3 8 (by kernel_rfl) ?_ ?_
       ·refine up_mk rfl ?_
        refine s_run rfl (g_on 60 (by kernel_rfl) rfl) (r_la H 1 rfl rfl rfl ag102 sz102) ?_
        refine k_nil ?_
        refine t_on trivial ?_
        refine tqh 6 rfl rfl (g_on 60 (by kernel_rfl) rfl) (fun _ hS => r_s3q rfl rfl (by kernel_rfl) (by kernel_rfl) (by kernel_rfl) (by kernel_rfl) Try.underlying3 Try.underlying3 Try.underlying3 hde) trivial ?_
        refine tqh 7 rfl rfl rfl (fun _ hS => r_pkT (v := .bool _) rfl rfl) trivial ?_
        refine t_up1 8 (by kernel_rfl) ?_
        refine up_mk rfl ?_
        refine s_sw H 3 rfl rfl rfl rfl rfl rfl rfl sz149 ?_
        clear H; intro _ H; simp only [jA, jB, jC, jD, jE, jF, jG, jH, jI, jJ, jK, Nat.reduceAdd] at H
        refine k_nil ?_
        refine t_on trivial ?_
        refine tqh 9 rfl rfl rfl (fun _ hS => r_as (v := .bool _) rfl) trivial ?_
        refine t_done (by kernel_rfl) ?_
        refine c_norm ?_
        refine k_ret ?_
        refine c_ret ?_
        refine fx2r rfl (rv_a H 3 rfl rfl rfl ag149 sz149) (rv_t (v := .bool _) rfl) ?_
        exact ⟨⟨P, Q, rfl, fun _ => ⟨rfl, rfl⟩⟩, H.only⟩
       ·refine up_mk rfl ?_
        refine s_sw H 3 rfl rfl rfl rfl rfl rfl rfl sz149 ?_
        clear H; intro _ H; simp only [jA, jB, jC, jD, jE, jF, jG, jH, jI, jJ, jK, Nat.reduceAdd] at H
        refine k_nil ?_
        refine t_on trivial ?_
        refine t_up1 3 (by kernel_rfl) ?_
        refine up_mk rfl ?_
        refine s_run rfl (g_on 60 (by kernel_rfl) rfl) (r_la H 1 rfl rfl rfl ag102 sz102) ?_
        refine k_nil ?_
        refine t_on trivial ?_
        refine tqh 6 rfl rfl (g_on 60 (by kernel_rfl) rfl) (fun _ hS => r_s3q rfl rfl (by kernel_rfl) (by kernel_rfl) (by kernel_rfl) (by kernel_rfl) Try.underlying3 Try.underlying3 Try.underlying3 hde) trivial ?_
        refine tqh 7 rfl rfl rfl (fun _ hS => r_pkT (v := .bool _) rfl rfl) trivial ?_
        refine tqh 9 rfl rfl rfl (fun _ hS => r_as (v := .bool _) rfl) trivial ?_
        refine t_done (by kernel_rfl) ?_
        refine c_norm ?_
        refine k_ret ?_
        refine c_ret ?_
        refine fx2r rfl (rv_a H 3 rfl rfl rfl ag149 sz149) (rv_t (v := .bool _) rfl) ?_
        exact ⟨⟨P, Q, rfl, fun _ => ⟨rfl, rfl⟩⟩, H.only⟩
      ·refine up_mk rfl ?_
       refine s_run rfl (g_on 60 (by kernel_rfl) rfl) (r_la H 1 rfl rfl rfl ag102 sz102) ?_
       refine k_nil ?_
       refine t_on trivial ?_
       refine tqh 6 rfl rfl (g_on 60 (by kernel_rfl) rfl) (fun _ hS => r_s3q rfl rfl (by kernel_rfl) (by kernel_rfl) (by kernel_rfl) (by kernel_rfl) Try.underlying3 Try.underlying3 Try.underlying3 hde) trivial ?_
       refine tqh 7 rfl rfl rfl (fun _ hS => r_pkT (v := .bool _) rfl rfl) trivial ?_
       refine t_up1 0 (by kernel_rfl) ?_
       refine up_mk rfl ?_
       refine s_run rfl rfl (r_la H 2 rfl rfl rfl ag149 sz149) ?_
       refine k_nil ?_
       refine t_on trivial ?_
       refine t_up1 8 (by kernel_rfl) ?_
       refine up_mk rfl ?_
       refine s_sw H 3 rfl rfl rfl rfl rfl rfl rfl sz149 ?_
       clear H; intro _ H; simp only [jA, jB, jC, jD, jE, jF, jG, jH, jI, jJ, jK, Nat.reduceAdd] at H
       refine k_nil ?_
       refine t_on trivial ?_
       refine tqh 9 rfl rfl rfl (fun _ hS => r_as (v := .bool _) rfl) trivial ?_
       refine t_done (by kernel_rfl) ?_
       refine c_norm ?_
       refine k_ret ?_
       refine c_ret ?_
       refine fx2r rfl (rv_a H 3 rfl rfl rfl ag149 sz149) (rv_t (v := .bool _) rfl) ?_
       exact ⟨⟨P, Q, rfl, fun _ => ⟨rfl, rfl⟩⟩, H.only⟩
     | false =>
      rw [hat] at hAt
      rw [Bool.false_and]
      refine k_in (N := 87) Try.func90 rfl rfl rfl ?_
      refine k_sg ?_
      refine s_box H rfl rfl ?_
      intro p5 _ H'; clear H; have H := H'; clear H'
      refine s_al H rfl inf149 ?_
      intro p8 _ H'; clear H; have H := H'; clear H'
      refine s_run rfl rfl (rab rfl) ?_
      refine k_nc ?_
      refine k_sg ?_
      refine s_run rfl rfl (r_la H 1 rfl rfl rfl ag48 sz48) ?_
      refine s_run rfl rfl (rmi rfl) ?_
      refine s_call rfl (hB _) (ca112 rfl) ?_
      rintro e W1 ⟨rfl, H'⟩
      refine ⟨_, rfl, ?_⟩
      have H := H.same H'; clear H'
      refine s_run rfl rfl (rai rfl) ?_
      refine k_nc ?_
      refine k_seq ?_
      refine k_sg ?_
      refine s_run rfl rfl (rmi rfl) ?_
      refine s_run rfl rfl (r_lssF rfl rfl (by omega)) ?_
      refine s_run rfl rfl (rmb rfl) ?_
      refine s_run rfl (g_on 25 (by kernel_rfl) rfl) (rmi rfl) ?_
      refine s_run rfl (g_on 25 (by kernel_rfl) rfl) (rms rfl) ?_
      refine s_run rfl (g_on 25 (by kernel_rfl) rfl) (r_len rfl Try.underlying49) ?_
      refine s_run rfl (g_on 25 (by kernel_rfl) rfl) (r_geqF rfl rfl (by omega)) ?_
      refine s_run rfl rfl (r_pkF (v := .bool _) rfl rfl) ?_
      refine k_nc ?_
      refine k_f rfl ?_
      refine k_skip ?_
      refine c_norm ?_
      refine k_sg ?_
      refine s_run rfl rfl (rmp rfl) ?_
      refine s_run rfl rfl (rmi rfl) ?_
      refine s_call rfl (hHd H.only) (ca91 rfl) ?_
      rintro e W1 ⟨rfl, H'⟩
      refine ⟨_, rfl, ?_⟩
      have H := H.same H'; clear H'
      refine s_run rfl rfl (rmt rfl) ?_
      refine s_run rfl rfl (r_ext (v := .agg _) rfl rfl) ?_
      refine s_run rfl rfl (r_ext (v := .int _ _) rfl rfl) ?_
      refine s_al H rfl inf149 ?_
      intro p11 _ H'; clear H; have H := H'; clear H'
      refine s_sw H 0 rfl rfl rfl rfl rfl rfl rfl sz149 ?_
      clear H; intro _ H; simp only [jA, jB, jC, jD, jE, jF, jG, jH, jI, jJ, jK, Nat.reduceAdd] at H
      refine s_run rfl rfl (rai rfl) ?_
      refine k_nc ?_
      refine k_seq ?_
      refine k_sg ?_
      refine s_run rfl rfl (rmi rfl) ?_
      refine s_run rfl rfl (r_neqF rfl rfl (by omega)) ?_
      refine k_nc ?_
      refine k_f rfl ?_
      refine k_skip ?_
      refine c_norm ?_
      refine k_sg ?_
      refine s_run rfl rfl (rms rfl) ?_
      refine s_run rfl rfl (rmi rfl) ?_
      refine s_run rfl rfl (r_ix (i := b) rfl rfl (by omega) (by omega) Try.underlying49 sz102) ?_
      refine s_run rfl rfl (r_lA (enc := fun v : Value => v) (zs := [.int .i64 h.1, .int .i64 h.2.1, .int .i64 h.2.2]) (hre.later H.only (by simp)) rfl rfl ag102 sz102) ?_
      refine s_al H rfl inf102 ?_
      intro p13 _ H'; clear H; have H := H'; clear H'
      refine s_sw H 0 rfl rfl rfl rfl rfl rfl rfl sz102 ?_
      clear H; intro _ H; simp only [jA, jB, jC, jD, jE, jF, jG, jH, jI, jJ, jK, Nat.reduceAdd] at H
      refine k_nc ?_
      refine k_sg ?_
      refine s_run rfl rfl (r_la H 1 rfl rfl rfl ag149 sz149) ?_
      refine s_call rfl (hSm _) (ca113 rfl) ?_
      rintro e W1 ⟨rfl, H'⟩
      refine ⟨_, rfl, ?_⟩
      have H := H.same H'; clear H'
      refine s_run rfl rfl (rmt rfl) ?_
      refine s_run rfl rfl (r_ext (v := .int _ _) rfl rfl) ?_
      refine s_run rfl rfl (r_ext (v := .bool _) rfl rfl) ?_
      refine s_run rfl rfl (rai rfl) ?_
      refine s_run rfl rfl (rab rfl) ?_
      refine k_nc ?_
      refine k_seq ?_
      refine k_sg ?_
      refine s_run rfl rfl (rmb rfl) ?_
      refine k_nc ?_
      refine k_t rfl ?_
      refine k_sg ?_
      refine s_run rfl rfl (r_la H 3 rfl rfl rfl ag48 sz48) ?_
      refine s_run rfl rfl (rmi rfl) ?_
      refine s_run rfl rfl (rmi rfl) ?_
      refine s_call rfl (hAt _) (ca114 rfl) ?_
      rintro e W1 ⟨rfl, H'⟩
      refine ⟨_, rfl, ?_⟩
      have H := H.same H'; clear H'
      refine s_run rfl rfl (rmt rfl) ?_
      refine s_run rfl rfl (r_ext (v := .agg _) rfl rfl) ?_
      refine s_run rfl rfl (r_ext (v := .bool _) rfl rfl) ?_
      refine s_al H rfl inf173 ?_
      intro p16 _ H'; clear H; have H := H'; clear H'
      refine s_sw H 0 rfl rfl rfl rfl rfl rfl rfl sz173 ?_
      clear H; intro _ H; simp only [jA, jB, jC, jD, jE, jF, jG, jH, jI, jJ, jK, Nat.reduceAdd] at H
      refine s_run rfl rfl (rab rfl) ?_
      refine k_nc ?_
      refine k_seq ?_
      refine k_trF mixed ?_; have H' := H.drew; clear H; have H := H'; clear H'
      refine tqh 1 rfl rfl rfl (fun _ hS => r_mv (v := .bool _) rfl) trivial ?_
      refine tqh 2 rfl rfl rfl (fun _ hS => r_mv (v := .bool _) rfl) trivial ?_
      refine toh 3 rfl rfl (g_off 60 (by kernel_rfl) rfl rfl) trivial ?_
      refine toh 4 rfl rfl (g_off 60 (by kernel_rfl) rfl rfl) trivial ?_
      refine toh 5 rfl rfl (g_off 60 (by kernel_rfl) rfl rfl) trivial ?_
      refine toh 6 rfl rfl (g_off 60 (by kernel_rfl) rfl rfl) trivial ?_
      refine tqh 7 rfl rfl rfl (fun _ hS => r_pkF (v := .bool _) rfl rfl) trivial ?_
      refine t_up1 0 (by kernel_rfl) ?_
      refine up_mk rfl ?_
      refine s_run rfl rfl (r_la H 2 rfl rfl rfl ag149 sz149) ?_
      refine k_nil ?_
      refine t_on trivial ?_
      refine t_up1 8 (by kernel_rfl) ?_
      refine up_mk rfl ?_
      refine s_sw H 3 rfl rfl rfl rfl rfl rfl rfl sz149 ?_
      clear H; intro _ H; simp only [jA, jB, jC, jD, jE, jF, jG, jH, jI, jJ, jK, Nat.reduceAdd] at H
      refine k_nil ?_
      refine t_on trivial ?_
      refine tqh 9 rfl rfl rfl (fun _ hS => r_as (v := .bool _) rfl) trivial ?_
      refine t_done (by kernel_rfl) ?_
      refine c_norm ?_
      refine k_ret ?_
      refine c_ret ?_
      refine fx2r rfl (rv_a H 3 rfl rfl rfl ag149 sz149) (rv_t (v := .bool _) rfl) ?_
      exact ⟨⟨P, Q, rfl, fun _ => ⟨rfl, rfl⟩⟩, H.only⟩
    | false =>
     rw [hob] at hSm
     rw [if_neg (by simp), hb, Int.toNat_natCast]
     have hWh := fun {W : World} (h : Only [] w W) => bWhole (some ⟨q, o, none⟩) k c hs b W (hS.later h (by simp)) hk hk2 (by omega) hW
     cases hwh : Ob.whole hs b with
     | true =>
      have hwl : Ob.wlen hs b = h.2.2 := by unfold Ob.wlen; rw [hwh, hh]; rfl
      rw [hwh, hwl] at hWh
      rw [Bool.true_and]
      by_cases hf : a = Ce.first n b
      ·rw [decide_eq_true hf, Bool.true_and]
       by_cases hbl : h.2.2 = Oh.blocks P Q
       ·rw [decide_eq_true hbl]
        refine k_in (N := 87) Try.func90 rfl rfl rfl ?_
        refine k_sg ?_
        refine s_box H rfl rfl ?_
        intro p5 _ H'; clear H; have H := H'; clear H'
        refine s_al H rfl inf149 ?_
        intro p8 _ H'; clear H; have H := H'; clear H'
        refine s_run rfl rfl (rab rfl) ?_
        refine k_nc ?_
        refine k_sg ?_
        refine s_run rfl rfl (r_la H 1 rfl rfl rfl ag48 sz48) ?_
        refine s_run rfl rfl (rmi rfl) ?_
        refine s_call rfl (hB _) (ca112 rfl) ?_
        rintro e W1 ⟨rfl, H'⟩
        refine ⟨_, rfl, ?_⟩
        have H := H.same H'; clear H'
        refine s_run rfl rfl (rai rfl) ?_
        refine k_nc ?_
        refine k_seq ?_
        refine k_sg ?_
        refine s_run rfl rfl (rmi rfl) ?_
        refine s_run rfl rfl (r_lssF rfl rfl (by omega)) ?_
        refine s_run rfl rfl (rmb rfl) ?_
        refine s_run rfl (g_on 25 (by kernel_rfl) rfl) (rmi rfl) ?_
        refine s_run rfl (g_on 25 (by kernel_rfl) rfl) (rms rfl) ?_
        refine s_run rfl (g_on 25 (by kernel_rfl) rfl) (r_len rfl Try.underlying49) ?_
        refine s_run rfl (g_on 25 (by kernel_rfl) rfl) (r_geqF rfl rfl (by omega)) ?_
        refine s_run rfl rfl (r_pkF (v := .bool _) rfl rfl) ?_
        refine k_nc ?_
        refine k_f rfl ?_
        refine k_skip ?_
        refine c_norm ?_
        refine k_sg ?_
        refine s_run rfl rfl (rmp rfl) ?_
        refine s_run rfl rfl (rmi rfl) ?_
        refine s_call rfl (hHd H.only) (ca91 rfl) ?_
        rintro e W1 ⟨rfl, H'⟩
        refine ⟨_, rfl, ?_⟩
        have H := H.same H'; clear H'
        refine s_run rfl rfl (rmt rfl) ?_
        refine s_run rfl rfl (r_ext (v := .agg _) rfl rfl) ?_
        refine s_run rfl rfl (r_ext (v := .int _ _) rfl rfl) ?_
        refine s_al H rfl inf149 ?_
        intro p11 _ H'; clear H; have H := H'; clear H'
        refine s_sw H 0 rfl rfl rfl rfl rfl rfl rfl sz149 ?_
        clear H; intro _ H; simp only [jA, jB, jC, jD, jE, jF, jG, jH, jI, jJ, jK, Nat.reduceAdd] at H
        refine s_run rfl rfl (rai rfl) ?_
        refine k_nc ?_
        refine k_seq ?_
        refine k_sg ?_
        refine s_run rfl rfl (rmi rfl) ?_
        refine s_run rfl rfl (r_neqF rfl rfl (by omega)) ?_
        refine k_nc ?_
        refine k_f rfl ?_
        refine k_skip ?_
        refine c_norm ?_
        refine k_sg ?_
        refine s_run rfl rfl (rms rfl) ?_
        refine s_run rfl rfl (rmi rfl) ?_
        refine s_run rfl rfl (r_ix (i := b) rfl rfl (by omega) (by omega) Try.underlying49 sz102) ?_
        refine s_run rfl rfl (r_lA (enc := fun v : Value => v) (zs := [.int .i64 h.1, .int .i64 h.2.1, .int .i64 h.2.2]) (hre.later H.only (by simp)) rfl rfl ag102 sz102) ?_
        refine s_al H rfl inf102 ?_
        intro p13 _ H'; clear H; have H := H'; clear H'
        refine s_sw H 0 rfl rfl rfl rfl rfl rfl rfl sz102 ?_
        clear H; intro _ H; simp only [jA, jB, jC, jD, jE, jF, jG, jH, jI, jJ, jK, Nat.reduceAdd] at H
        refine k_nc ?_
        refine k_sg ?_
        refine s_run rfl rfl (r_la H 1 rfl rfl rfl ag149 sz149) ?_
        refine s_call rfl (hSm _) (ca113 rfl) ?_
        rintro e W1 ⟨rfl, H'⟩
        refine ⟨_, rfl, ?_⟩
        have H := H.same H'; clear H'
        refine s_run rfl rfl (rmt rfl) ?_
        refine s_run rfl rfl (r_ext (v := .int _ _) rfl rfl) ?_
        refine s_run rfl rfl (r_ext (v := .bool _) rfl rfl) ?_
        refine s_run rfl rfl (rai rfl) ?_
        refine s_run rfl rfl (rab rfl) ?_
        refine k_nc ?_
        refine k_seq ?_
        refine k_sg ?_
        refine s_run rfl rfl (rmb rfl) ?_
        refine k_nc ?_
        refine k_f rfl ?_
        refine k_skip ?_
        refine c_norm ?_
        refine k_sg ?_
        refine s_run rfl rfl (rms rfl) ?_
        refine s_run rfl rfl (rmi rfl) ?_
        refine s_call rfl (hWh H.only) (ca115 rfl) ?_
        rintro e W1 ⟨rfl, H'⟩
        refine ⟨_, rfl, ?_⟩
        have H := H.same H'; clear H'
        refine s_run rfl rfl (rmt rfl) ?_
        refine s_run rfl rfl (r_ext (v := .int _ _) rfl rfl) ?_
        refine s_run rfl rfl (r_ext (v := .bool _) rfl rfl) ?_
        refine s_run rfl rfl (rai rfl) ?_
        refine s_run rfl rfl (rab rfl) ?_
        refine k_nc ?_
        refine k_seq ?_
        refine k_trF mixed ?_; have H' := H.drew; clear H; have H := H'; clear H'
        refine tqh 1 rfl rfl rfl (fun _ hS => r_mv (v := .bool _) rfl) trivial ?_
        refine tqh 2 rfl rfl rfl (fun _ hS => r_mv (v := .bool _) rfl) trivial ?_
        refine tqh 3 rfl rfl (g_on 74 (by kernel_rfl) rfl) (fun _ hS => r_mv (v := .int _ _) rfl) trivial ?_
        refine tqh 5 rfl rfl (g_on 74 (by kernel_rfl) rfl) (fun _ hS => r_mv (v := .int _ _) rfl) trivial ?_
        refine t_up2 0 4 (by kernel_rfl) ?_ ?_
        ·refine up_mk rfl ?_
         refine s_run rfl rfl (r_la H 1 rfl rfl rfl ag149 sz149) ?_
         refine k_nil ?_
         refine t_on trivial ?_
         refine t_up1 4 (by kernel_rfl) ?_
         refine up_mk rfl ?_
         refine s_run rfl (g_on 74 (by kernel_rfl) rfl) (r_la H 3 rfl rfl rfl ag48 sz48) ?_
         refine k_nil ?_
         refine t_on trivial ?_
         refine t_up1 6 (by kernel_rfl) ?_
         refine up_mk rfl ?_
         refine s_call (g_on 74 (by kernel_rfl) rfl) (hFi _) (ca116 rfl) ?_
         rintro e W1 ⟨rfl, H'⟩
         refine ⟨_, rfl, ?_⟩
         have H := H.same H'; clear H'
         refine k_nil ?_
         refine t_on trivial ?_
         refine tqh 7 rfl rfl (g_on 74 (by kernel_rfl) rfl) (fun _ hS => r_eqlT rfl rfl (by omega)) trivial ?_
         refine tqh 8 rfl rfl rfl (fun _ hS => r_pkT (v := .bool _) rfl rfl) trivial ?_
         refine tqh 9 rfl rfl rfl (fun _ hS => r_mv (v := .bool _) rfl) trivial ?_
         refine tqh 10 rfl rfl (g_on 81 (by kernel_rfl) rfl) (fun _ hS => r_mv (v := .int _ _) rfl) trivial ?_
         refine t_up1 11 (by kernel_rfl) ?_
         refine up_mk rfl ?_
         refine s_run rfl (g_on 81 (by kernel_rfl) rfl) (r_la H 1 rfl rfl rfl ag149 sz149) ?_
         refine k_nil ?_
         refine t_on trivial ?_
         refine t_up1 12 (by kernel_rfl) ?_
         refine up_mk rfl ?_
         refine s_call (g_on 81 (by kernel_rfl) rfl) (hBl _) (ca117 rfl) ?_
         rintro e W1 ⟨rfl, H'⟩
         refine ⟨_, rfl, ?_⟩
         have H := H.same H'; clear H'
         refine k_nil ?_
         refine t_on trivial ?_
         refine tqh 13 rfl rfl (g_on 81 (by kernel_rfl) rfl) (fun _ hS => r_eqlT rfl rfl (by omega)) trivial ?_
         refine tqh 14 rfl rfl rfl (fun _ hS => r_pkT (v := .bool _) rfl rfl) trivial ?_
         refine t_up1 15 (by kernel_rfl) ?_
         refine up_mk rfl ?_
         refine s_sw H 2 rfl rfl rfl rfl rfl rfl rfl sz149 ?_
         clear H; intro _ H; simp only [jA, jB, jC, jD, jE, jF, jG, jH, jI, jJ, jK, Nat.reduceAdd] at H
         refine k_nil ?_
         refine t_on trivial ?_
         refine tqh 16 rfl rfl rfl (fun _ hS => r_as (v := .bool _) rfl) trivial ?_
         refine t_done (by kernel_rfl) ?_
         refine c_norm ?_
         refine k_ret ?_
         refine fx2r rfl (rv_a H 2 rfl rfl rfl ag149 sz149) (rv_t (v := .bool _) rfl) ?_
         exact ⟨⟨P, Q, rfl, fun _ => ⟨rfl, rfl⟩⟩, H.only⟩
        ·refine up_mk rfl ?_
         refine s_run rfl (g_on 74 (by kernel_rfl) rfl) (r_la H 3 rfl rfl rfl ag48 sz48) ?_
         refine k_nil ?_
         refine t_on trivial ?_
         refine t_up2 0 6 (by kernel_rfl) ?_ ?_
         ·refine up_mk rfl ?_
          refine s_run rfl rfl (r_la H 1 rfl rfl rfl ag149 sz149) ?_
          refine k_nil ?_
          refine t_on trivial ?_
          refine t_up1 6 (by kernel_rfl) ?_
          refine up_mk rfl ?_
          refine s_call (g_on 74 (by kernel_rfl) rfl) (hFi _) (ca116 rfl) ?_
          rintro e W1 ⟨rfl, H'⟩
          refine ⟨_, rfl, ?_⟩
          have H := H.same H'; clear H'
          refine k_nil ?_
          refine t_on trivial ?_
          refine tqh 7 rfl rfl (g_on 74 (by kernel_rfl) rfl) (fun _ hS => r_eqlT rfl rfl (by omega)) trivial ?_
          refine tqh 8 rfl rfl rfl (fun _ hS => r_pkT (v := .bool _) rfl rfl) trivial ?_
          refine tqh 9 rfl rfl rfl (fun _ hS => r_mv (v := .bool _) rfl) trivial ?_
          refine tqh 10 rfl rfl (g_on 81 (by kernel_rfl) rfl) (fun _ hS => r_mv (v := .int _ _) rfl) trivial ?_
          refine t_up1 11 (by kernel_rfl) ?_
          refine up_mk rfl ?_
          refine s_run rfl (g_on 81 (by kernel_rfl) rfl) (r_la H 1 rfl rfl rfl ag149 sz149) ?_
          refine k_nil ?_
          refine t_on trivial ?_
          refine t_up1 12 (by kernel_rfl) ?_
          refine up_mk rfl ?_
          refine s_call (g_on 81 (by kernel_rfl) rfl) (hBl _) (ca117 rfl) ?_
          rintro e W1 ⟨rfl, H'⟩
          refine ⟨_, rfl, ?_⟩
          have H := H.same H'; clear H'
          refine k_nil ?_
          refine t_on trivial ?_
          refine tqh 13 rfl rfl (g_on 81 (by kernel_rfl) rfl) (fun _ hS => r_eqlT rfl rfl (by omega)) trivial ?_
          refine tqh 14 rfl rfl rfl (fun _ hS => r_pkT (v := .bool _) rfl rfl) trivial ?_
          refine t_up1 15 (by kernel_rfl) ?_
          refine up_mk rfl ?_
          refine s_sw H 2 rfl rfl rfl rfl rfl rfl rfl sz149 ?_
          clear H; intro _ H; simp only [jA, jB, jC, jD, jE, jF, jG, jH, jI, jJ, jK, Nat.reduceAdd] at H
          refine k_nil ?_
          refine t_on trivial ?_
          refine tqh 16 rfl rfl rfl (fun _ hS => r_as (v := .bool _) rfl) trivial ?_
          refine t_done (by kernel_rfl) ?_
          refine c_norm ?_
          refine k_ret ?_
          refine fx2r rfl (rv_a H 2 rfl rfl rfl ag149 sz149) (rv_t (v := .bool _) rfl) ?_
          exact ⟨⟨P, Q, rfl, fun _ => ⟨rfl, rfl⟩⟩, H.only⟩
         ·refine up_mk rfl ?_
          refine s_call (g_on 74 (by kernel_rfl) rfl) (hFi _) (ca116 rfl) ?_
          rintro e W1 ⟨rfl, H'⟩
          refine ⟨_, rfl, ?_⟩
          have H := H.same H'; clear H'
          refine k_nil ?_
          refine t_on trivial ?_
          refine tqh 7 rfl rfl (g_on 74 (by kernel_rfl) rfl) (fun _ hS => r_eqlT rfl rfl (by omega)) trivial ?_
          refine tqh 8 rfl rfl rfl (fun _ hS => r_pkT (v := .bool _) rfl rfl) trivial ?_
          refine tqh 9 rfl rfl rfl (fun _ hS => r_mv (v := .bool _) rfl) trivial ?_
          refine tqh 10 rfl rfl (g_on 81 (by kernel_rfl) rfl) (fun _ hS => r_mv (v := .int _ _) rfl) trivial ?_
          refine t_up2 0 11 (by kernel_rfl) ?_ ?_
          ·refine up_mk rfl ?_
           refine s_run rfl rfl (r_la H 1 rfl rfl rfl ag149 sz149) ?_
           refine k_nil ?_
           refine t_on trivial ?_
           refine t_up1 11 (by kernel_rfl) ?_
           refine up_mk rfl ?_
           refine s_run rfl (g_on 81 (by kernel_rfl) rfl) (r_la H 1 rfl rfl rfl ag149 sz149) ?_
           refine k_nil ?_
           refine t_on trivial ?_
           refine t_up1 12 (by kernel_rfl) ?_
           refine up_mk rfl ?_
           refine s_call (g_on 81 (by kernel_rfl) rfl) (hBl _) (ca117 rfl) ?_
           rintro e W1 ⟨rfl, H'⟩
           refine ⟨_, rfl, ?_⟩
           have H := H.same H'; clear H'
           refine k_nil ?_
           refine t_on trivial ?_
           refine tqh 13 rfl rfl (g_on 81 (by kernel_rfl) rfl) (fun _ hS => r_eqlT rfl rfl (by omega)) trivial ?_
           refine tqh 14 rfl rfl rfl (fun _ hS => r_pkT (v := .bool _) rfl rfl) trivial ?_
           refine t_up1 15 (by kernel_rfl) ?_
           refine up_mk rfl ?_
           refine s_sw H 2 rfl rfl rfl rfl rfl rfl rfl sz149 ?_
           clear H; intro _ H; simp only [jA, jB, jC, jD, jE, jF, jG, jH, jI, jJ, jK, Nat.reduceAdd] at H
           refine k_nil ?_
           refine t_on trivial ?_
           refine tqh 16 rfl rfl rfl (fun _ hS => r_as (v := .bool _) rfl) trivial ?_
           refine t_done (by kernel_rfl) ?_
           refine c_norm ?_
           refine k_ret ?_
           refine fx2r rfl (rv_a H 2 rfl rfl rfl ag149 sz149) (rv_t (v := .bool _) rfl) ?_
           exact ⟨⟨P, Q, rfl, fun _ => ⟨rfl, rfl⟩⟩, H.only⟩
          ·refine up_mk rfl ?_
           refine s_run rfl (g_on 81 (by kernel_rfl) rfl) (r_la H 1 rfl rfl rfl ag149 sz149) ?_
           refine k_nil ?_
           refine t_on trivial ?_
           refine t_up2 0 12 (by kernel_rfl) ?_ ?_
           ·refine up_mk rfl ?_
            refine s_run rfl rfl (r_la H 1 rfl rfl rfl ag149 sz149) ?_
            refine k_nil ?_
            refine t_on trivial ?_
            refine t_up1 12 (by kernel_rfl) ?_
            refine up_mk rfl ?_
            refine s_call (g_on 81 (by kernel_rfl) rfl) (hBl _) (ca117 rfl) ?_
            rintro e W1 ⟨rfl, H'⟩
            refine ⟨_, rfl, ?_⟩
            have H := H.same H'; clear H'
            refine k_nil ?_
            refine t_on trivial ?_
            refine tqh 13 rfl rfl (g_on 81 (by kernel_rfl) rfl) (fun _ hS => r_eqlT rfl rfl (by omega)) trivial ?_
            refine tqh 14 rfl rfl rfl (fun _ hS => r_pkT (v := .bool _) rfl rfl) trivial ?_
            refine t_up1 15 (by kernel_rfl) ?_
            refine up_mk rfl ?_
            refine s_sw H 2 rfl rfl rfl rfl rfl rfl rfl sz149 ?_
            clear H; intro _ H; simp only [jA, jB, jC, jD, jE, jF, jG, jH, jI, jJ, jK, Nat.reduceAdd] at H
            refine k_nil ?_
            refine t_on trivial ?_
            refine tqh 16 rfl rfl rfl (fun _ hS => r_as (v := .bool _) rfl) trivial ?_
            refine t_done (by kernel_rfl) ?_
            refine c_norm ?_
            refine k_ret ?_
            refine fx2r rfl (rv_a H 2 rfl rfl rfl ag149 sz149) (rv_t (v := .bool _) rfl) ?_
            exact ⟨⟨P, Q, rfl, fun _ => ⟨rfl, rfl⟩⟩, H.only⟩
           ·refine up_mk rfl ?_
            refine s_call (g_on 81 (by kernel_rfl) rfl) (hBl _) (ca117 rfl) ?_
            rintro e W1 ⟨rfl, H'⟩
            refine ⟨_, rfl, ?_⟩
            have H := H.same H'; clear H'
            refine k_nil ?_
            refine t_on trivial ?_
            refine tqh 13 rfl rfl (g_on 81 (by kernel_rfl) rfl) (fun _ hS => r_eqlT rfl rfl (by omega)) trivial ?_
            refine tqh 14 rfl rfl rfl (fun _ hS => r_pkT (v := .bool _) rfl rfl) trivial ?_
            refine t_up1 0 (by kernel_rfl) ?_
            refine up_mk rfl ?_
            refine s_run rfl rfl (r_la H 1 rfl rfl rfl ag149 sz149) ?_
            refine k_nil ?_
            refine t_on trivial ?_
            refine t_up1 15 (by kernel_rfl) ?_
            refine up_mk rfl ?_
            refine s_sw H 2 rfl rfl rfl rfl rfl rfl rfl sz149 ?_
            clear H; intro _ H; simp only [jA, jB, jC, jD, jE, jF, jG, jH, jI, jJ, jK, Nat.reduceAdd] at H
            refine k_nil ?_
            refine t_on trivial ?_
            refine tqh 16 rfl rfl rfl (fun _ hS => r_as (v := .bool _) rfl) trivial ?_
            refine t_done (by kernel_rfl) ?_
            refine c_norm ?_
            refine k_ret ?_
            refine fx2r rfl (rv_a H 2 rfl rfl rfl ag149 sz149) (rv_t (v := .bool _) rfl) ?_
            exact ⟨⟨P, Q, rfl, fun _ => ⟨rfl, rfl⟩⟩, H.only⟩
       ·rw [decide_eq_false hbl]
        refine k_in (N := 87) Try.func90 rfl rfl rfl ?_
        refine k_sg ?_
        refine s_box H rfl rfl ?_
        intro p5 _ H'; clear H; have H := H'; clear H'
        refine s_al H rfl inf149 ?_
        intro p8 _ H'; clear H; have H := H'; clear H'
        refine s_run rfl rfl (rab rfl) ?_
        refine k_nc ?_
        refine k_sg ?_
        refine s_run rfl rfl (r_la H 1 rfl rfl rfl ag48 sz48) ?_
        refine s_run rfl rfl (rmi rfl) ?_
        refine s_call rfl (hB _) (ca112 rfl) ?_
        rintro e W1 ⟨rfl, H'⟩
        refine ⟨_, rfl, ?_⟩
        have H := H.same H'; clear H'
        refine s_run rfl rfl (rai rfl) ?_
        refine k_nc ?_
        refine k_seq ?_
        refine k_sg ?_
        refine s_run rfl rfl (rmi rfl) ?_
        refine s_run rfl rfl (r_lssF rfl rfl (by omega)) ?_
        refine s_run rfl rfl (rmb rfl) ?_
        refine s_run rfl (g_on 25 (by kernel_rfl) rfl) (rmi rfl) ?_
        refine s_run rfl (g_on 25 (by kernel_rfl) rfl) (rms rfl) ?_
        refine s_run rfl (g_on 25 (by kernel_rfl) rfl) (r_len rfl Try.underlying49) ?_
        refine s_run rfl (g_on 25 (by kernel_rfl) rfl) (r_geqF rfl rfl (by omega)) ?_
        refine s_run rfl rfl (r_pkF (v := .bool _) rfl rfl) ?_
        refine k_nc ?_
        refine k_f rfl ?_
        refine k_skip ?_
        refine c_norm ?_
        refine k_sg ?_
        refine s_run rfl rfl (rmp rfl) ?_
        refine s_run rfl rfl (rmi rfl) ?_
        refine s_call rfl (hHd H.only) (ca91 rfl) ?_
        rintro e W1 ⟨rfl, H'⟩
        refine ⟨_, rfl, ?_⟩
        have H := H.same H'; clear H'
        refine s_run rfl rfl (rmt rfl) ?_
        refine s_run rfl rfl (r_ext (v := .agg _) rfl rfl) ?_
        refine s_run rfl rfl (r_ext (v := .int _ _) rfl rfl) ?_
        refine s_al H rfl inf149 ?_
        intro p11 _ H'; clear H; have H := H'; clear H'
        refine s_sw H 0 rfl rfl rfl rfl rfl rfl rfl sz149 ?_
        clear H; intro _ H; simp only [jA, jB, jC, jD, jE, jF, jG, jH, jI, jJ, jK, Nat.reduceAdd] at H
        refine s_run rfl rfl (rai rfl) ?_
        refine k_nc ?_
        refine k_seq ?_
        refine k_sg ?_
        refine s_run rfl rfl (rmi rfl) ?_
        refine s_run rfl rfl (r_neqF rfl rfl (by omega)) ?_
        refine k_nc ?_
        refine k_f rfl ?_
        refine k_skip ?_
        refine c_norm ?_
        refine k_sg ?_
        refine s_run rfl rfl (rms rfl) ?_
        refine s_run rfl rfl (rmi rfl) ?_
        refine s_run rfl rfl (r_ix (i := b) rfl rfl (by omega) (by omega) Try.underlying49 sz102) ?_
        refine s_run rfl rfl (r_lA (enc := fun v : Value => v) (zs := [.int .i64 h.1, .int .i64 h.2.1, .int .i64 h.2.2]) (hre.later H.only (by simp)) rfl rfl ag102 sz102) ?_
        refine s_al H rfl inf102 ?_
        intro p13 _ H'; clear H; have H := H'; clear H'
        refine s_sw H 0 rfl rfl rfl rfl rfl rfl rfl sz102 ?_
        clear H; intro _ H; simp only [jA, jB, jC, jD, jE, jF, jG, jH, jI, jJ, jK, Nat.reduceAdd] at H
        refine k_nc ?_
        refine k_sg ?_
        refine s_run rfl rfl (r_la H 1 rfl rfl rfl ag149 sz149) ?_
        refine s_call rfl (hSm _) (ca113 rfl) ?_
        rintro e W1 ⟨rfl, H'⟩
        refine ⟨_, rfl, ?_⟩
        have H := H.same H'; clear H'
        refine s_run rfl rfl (rmt rfl) ?_
        refine s_run rfl rfl (r_ext (v := .int _ _) rfl rfl) ?_
        refine s_run rfl rfl (r_ext (v := .bool _) rfl rfl) ?_
        refine s_run rfl rfl (rai rfl) ?_
        refine s_run rfl rfl (rab rfl) ?_
        refine k_nc ?_
        refine k_seq ?_
        refine k_sg ?_
        refine s_run rfl rfl (rmb rfl) ?_
        refine k_nc ?_
        refine k_f rfl ?_
        refine k_skip ?_
        refine c_norm ?_
        refine k_sg ?_
        refine s_run rfl rfl (rms rfl) ?_
        refine s_run rfl rfl (rmi rfl) ?_
        refine s_call rfl (hWh H.only) (ca115 rfl) ?_
        rintro e W1 ⟨rfl, H'⟩
        refine ⟨_, rfl, ?_⟩
        have H := H.same H'; clear H'
        refine s_run rfl rfl (rmt rfl) ?_
        refine s_run rfl rfl (r_ext (v := .int _ _) rfl rfl) ?_
        refine s_run rfl rfl (r_ext (v := .bool _) rfl rfl) ?_
        refine s_run rfl rfl (rai rfl) ?_
        refine s_run rfl rfl (rab rfl) ?_
        refine k_nc ?_
        refine k_seq ?_
        refine k_trF mixed ?_; have H' := H.drew; clear H; have H := H'; clear H'
        refine tqh 1 rfl rfl rfl (fun _ hS => r_mv (v := .bool _) rfl) trivial ?_
        refine tqh 2 rfl rfl rfl (fun _ hS => r_mv (v := .bool _) rfl) trivial ?_
        refine tqh 3 rfl rfl (g_on 74 (by kernel_rfl) rfl) (fun _ hS => r_mv (v := .int _ _) rfl) trivial ?_
        refine tqh 5 rfl rfl (g_on 74 (by kernel_rfl) rfl) (fun _ hS => r_mv (v := .int _ _) rfl) trivial ?_
        refine t_up2 0 4 (by kernel_rfl) ?_ ?_
        ·refine up_mk rfl ?_
         refine s_run rfl rfl (r_la H 1 rfl rfl rfl ag149 sz149) ?_
         refine k_nil ?_
         refine t_on trivial ?_
         refine t_up1 4 (by kernel_rfl) ?_
         refine up_mk rfl ?_
         refine s_run rfl (g_on 74 (by kernel_rfl) rfl) (r_la H 3 rfl rfl rfl ag48 sz48) ?_
         refine k_nil ?_
         refine t_on trivial ?_
         refine t_up1 6 (by kernel_rfl) ?_
         refine up_mk rfl ?_
         refine s_call (g_on 74 (by kernel_rfl) rfl) (hFi _) (ca116 rfl) ?_
         rintro e W1 ⟨rfl, H'⟩
         refine ⟨_, rfl, ?_⟩
         have H := H.same H'; clear H'
         refine k_nil ?_
         refine t_on trivial ?_
         refine tqh 7 rfl rfl (g_on 74 (by kernel_rfl) rfl) (fun _ hS => r_eqlT rfl rfl (by omega)) trivial ?_
         refine tqh 8 rfl rfl rfl (fun _ hS => r_pkT (v := .bool _) rfl rfl) trivial ?_
         refine tqh 9 rfl rfl rfl (fun _ hS => r_mv (v := .bool _) rfl) trivial ?_
         refine tqh 10 rfl rfl (g_on 81 (by kernel_rfl) rfl) (fun _ hS => r_mv (v := .int _ _) rfl) trivial ?_
         refine t_up1 11 (by kernel_rfl) ?_
         refine up_mk rfl ?_
         refine s_run rfl (g_on 81 (by kernel_rfl) rfl) (r_la H 1 rfl rfl rfl ag149 sz149) ?_
         refine k_nil ?_
         refine t_on trivial ?_
         refine t_up1 12 (by kernel_rfl) ?_
         refine up_mk rfl ?_
         refine s_call (g_on 81 (by kernel_rfl) rfl) (hBl _) (ca117 rfl) ?_
         rintro e W1 ⟨rfl, H'⟩
         refine ⟨_, rfl, ?_⟩
         have H := H.same H'; clear H'
         refine k_nil ?_
         refine t_on trivial ?_
         refine tqh 13 rfl rfl (g_on 81 (by kernel_rfl) rfl) (fun _ hS => r_eqlF rfl rfl (by omega)) trivial ?_
         refine tqh 14 rfl rfl rfl (fun _ hS => r_pkT (v := .bool _) rfl rfl) trivial ?_
         refine t_up1 15 (by kernel_rfl) ?_
         refine up_mk rfl ?_
         refine s_sw H 2 rfl rfl rfl rfl rfl rfl rfl sz149 ?_
         clear H; intro _ H; simp only [jA, jB, jC, jD, jE, jF, jG, jH, jI, jJ, jK, Nat.reduceAdd] at H
         refine k_nil ?_
         refine t_on trivial ?_
         refine tqh 16 rfl rfl rfl (fun _ hS => r_as (v := .bool _) rfl) trivial ?_
         refine t_done (by kernel_rfl) ?_
         refine c_norm ?_
         refine k_ret ?_
         refine fx2r rfl (rv_a H 2 rfl rfl rfl ag149 sz149) (rv_t (v := .bool _) rfl) ?_
         exact ⟨⟨P, Q, rfl, fun _ => ⟨rfl, rfl⟩⟩, H.only⟩
        ·refine up_mk rfl ?_
         refine s_run rfl (g_on 74 (by kernel_rfl) rfl) (r_la H 3 rfl rfl rfl ag48 sz48) ?_
         refine k_nil ?_
         refine t_on trivial ?_
         refine t_up2 0 6 (by kernel_rfl) ?_ ?_
         ·refine up_mk rfl ?_
          refine s_run rfl rfl (r_la H 1 rfl rfl rfl ag149 sz149) ?_
          refine k_nil ?_
          refine t_on trivial ?_
          refine t_up1 6 (by kernel_rfl) ?_
          refine up_mk rfl ?_
          refine s_call (g_on 74 (by kernel_rfl) rfl) (hFi _) (ca116 rfl) ?_
          rintro e W1 ⟨rfl, H'⟩
          refine ⟨_, rfl, ?_⟩
          have H := H.same H'; clear H'
          refine k_nil ?_
          refine t_on trivial ?_
          refine tqh 7 rfl rfl (g_on 74 (by kernel_rfl) rfl) (fun _ hS => r_eqlT rfl rfl (by omega)) trivial ?_
          refine tqh 8 rfl rfl rfl (fun _ hS => r_pkT (v := .bool _) rfl rfl) trivial ?_
          refine tqh 9 rfl rfl rfl (fun _ hS => r_mv (v := .bool _) rfl) trivial ?_
          refine tqh 10 rfl rfl (g_on 81 (by kernel_rfl) rfl) (fun _ hS => r_mv (v := .int _ _) rfl) trivial ?_
          refine t_up1 11 (by kernel_rfl) ?_
          refine up_mk rfl ?_
          refine s_run rfl (g_on 81 (by kernel_rfl) rfl) (r_la H 1 rfl rfl rfl ag149 sz149) ?_
          refine k_nil ?_
          refine t_on trivial ?_
          refine t_up1 12 (by kernel_rfl) ?_
          refine up_mk rfl ?_
          refine s_call (g_on 81 (by kernel_rfl) rfl) (hBl _) (ca117 rfl) ?_
          rintro e W1 ⟨rfl, H'⟩
          refine ⟨_, rfl, ?_⟩
          have H := H.same H'; clear H'
          refine k_nil ?_
          refine t_on trivial ?_
          refine tqh 13 rfl rfl (g_on 81 (by kernel_rfl) rfl) (fun _ hS => r_eqlF rfl rfl (by omega)) trivial ?_
          refine tqh 14 rfl rfl rfl (fun _ hS => r_pkT (v := .bool _) rfl rfl) trivial ?_
          refine t_up1 15 (by kernel_rfl) ?_
          refine up_mk rfl ?_
          refine s_sw H 2 rfl rfl rfl rfl rfl rfl rfl sz149 ?_
          clear H; intro _ H; simp only [jA, jB, jC, jD, jE, jF, jG, jH, jI, jJ, jK, Nat.reduceAdd] at H
          refine k_nil ?_
          refine t_on trivial ?_
          refine tqh 16 rfl rfl rfl (fun _ hS => r_as (v := .bool _) rfl) trivial ?_
          refine t_done (by kernel_rfl) ?_
          refine c_norm ?_
          refine k_ret ?_
          refine fx2r rfl (rv_a H 2 rfl rfl rfl ag149 sz149) (rv_t (v := .bool _) rfl) ?_
          exact ⟨⟨P, Q, rfl, fun _ => ⟨rfl, rfl⟩⟩, H.only⟩
         ·refine up_mk rfl ?_
          refine s_call (g_on 74 (by kernel_rfl) rfl) (hFi _) (ca116 rfl) ?_
          rintro e W1 ⟨rfl, H'⟩
          refine ⟨_, rfl, ?_⟩
          have H := H.same H'; clear H'
          refine k_nil ?_
          refine t_on trivial ?_
          refine tqh 7 rfl rfl (g_on 74 (by kernel_rfl) rfl) (fun _ hS => r_eqlT rfl rfl (by omega)) trivial ?_
          refine tqh 8 rfl rfl rfl (fun _ hS => r_pkT (v := .bool _) rfl rfl) trivial ?_
          refine tqh 9 rfl rfl rfl (fun _ hS => r_mv (v := .bool _) rfl) trivial ?_
          refine tqh 10 rfl rfl (g_on 81 (by kernel_rfl) rfl) (fun _ hS => r_mv (v := .int _ _) rfl) trivial ?_
          refine t_up2 0 11 (by kernel_rfl) ?_ ?_
          ·refine up_mk rfl ?_
           refine s_run rfl rfl (r_la H 1 rfl rfl rfl ag149 sz149) ?_
           refine k_nil ?_
           refine t_on trivial ?_
           refine t_up1 11 (by kernel_rfl) ?_
           refine up_mk rfl ?_
           refine s_run rfl (g_on 81 (by kernel_rfl) rfl) (r_la H 1 rfl rfl rfl ag149 sz149) ?_
           refine k_nil ?_
           refine t_on trivial ?_
           refine t_up1 12 (by kernel_rfl) ?_
           refine up_mk rfl ?_
           refine s_call (g_on 81 (by kernel_rfl) rfl) (hBl _) (ca117 rfl) ?_
           rintro e W1 ⟨rfl, H'⟩
           refine ⟨_, rfl, ?_⟩
           have H := H.same H'; clear H'
           refine k_nil ?_
           refine t_on trivial ?_
           refine tqh 13 rfl rfl (g_on 81 (by kernel_rfl) rfl) (fun _ hS => r_eqlF rfl rfl (by omega)) trivial ?_
           refine tqh 14 rfl rfl rfl (fun _ hS => r_pkT (v := .bool _) rfl rfl) trivial ?_
           refine t_up1 15 (by kernel_rfl) ?_
           refine up_mk rfl ?_
           refine s_sw H 2 rfl rfl rfl rfl rfl rfl rfl sz149 ?_
           clear H; intro _ H; simp only [jA, jB, jC, jD, jE, jF, jG, jH, jI, jJ, jK, Nat.reduceAdd] at H
           refine k_nil ?_
           refine t_on trivial ?_
           refine tqh 16 rfl rfl rfl (fun _ hS => r_as (v := .bool _) rfl) trivial ?_
           refine t_done (by kernel_rfl) ?_
           refine c_norm ?_
           refine k_ret ?_
           refine fx2r rfl (rv_a H 2 rfl rfl rfl ag149 sz149) (rv_t (v := .bool _) rfl) ?_
           exact ⟨⟨P, Q, rfl, fun _ => ⟨rfl, rfl⟩⟩, H.only⟩
          ·refine up_mk rfl ?_
           refine s_run rfl (g_on 81 (by kernel_rfl) rfl) (r_la H 1 rfl rfl rfl ag149 sz149) ?_
           refine k_nil ?_
           refine t_on trivial ?_
           refine t_up2 0 12 (by kernel_rfl) ?_ ?_
           ·refine up_mk rfl ?_
            refine s_run rfl rfl (r_la H 1 rfl rfl rfl ag149 sz149) ?_
            refine k_nil ?_
            refine t_on trivial ?_
            refine t_up1 12 (by kernel_rfl) ?_
            refine up_mk rfl ?_
            refine s_call (g_on 81 (by kernel_rfl) rfl) (hBl _) (ca117 rfl) ?_
            rintro e W1 ⟨rfl, H'⟩
            refine ⟨_, rfl, ?_⟩
            have H := H.same H'; clear H'
            refine k_nil ?_
            refine t_on trivial ?_
            refine tqh 13 rfl rfl (g_on 81 (by kernel_rfl) rfl) (fun _ hS => r_eqlF rfl rfl (by omega)) trivial ?_
            refine tqh 14 rfl rfl rfl (fun _ hS => r_pkT (v := .bool _) rfl rfl) trivial ?_
            refine t_up1 15 (by kernel_rfl) ?_
            refine up_mk rfl ?_
            refine s_sw H 2 rfl rfl rfl rfl rfl rfl rfl sz149 ?_
            clear H; intro _ H; simp only [jA, jB, jC, jD, jE, jF, jG, jH, jI, jJ, jK, Nat.reduceAdd] at H
            refine k_nil ?_
            refine t_on trivial ?_
            refine tqh 16 rfl rfl rfl (fun _ hS => r_as (v := .bool _) rfl) trivial ?_
            refine t_done (by kernel_rfl) ?_
            refine c_norm ?_
            refine k_ret ?_
            refine fx2r rfl (rv_a H 2 rfl rfl rfl ag149 sz149) (rv_t (v := .bool _) rfl) ?_
            exact ⟨⟨P, Q, rfl, fun _ => ⟨rfl, rfl⟩⟩, H.only⟩
           ·refine up_mk rfl ?_
            refine s_call (g_on 81 (by kernel_rfl) rfl) (hBl _) (ca117 rfl) ?_
            rintro e W1 ⟨rfl, H'⟩
            refine ⟨_, rfl, ?_⟩
            have H := H.same H'; clear H'
            refine k_nil ?_
            refine t_on trivial ?_
            refine tqh 13 rfl rfl (g_on 81 (by kernel_rfl) rfl) (fun _ hS => r_eqlF rfl rfl (by omega)) trivial ?_
            refine tqh 14 rfl rfl rfl (fun _ hS => r_pkT (v := .bool _) rfl rfl) trivial ?_
            refine t_up1 0 (by kernel_rfl) ?_
            refine up_mk rfl ?_
            refine s_run rfl rfl (r_la H 1 rfl rfl rfl ag149 sz149) ?_
            refine k_nil ?_
            refine t_on trivial ?_
            refine t_up1 15 (by kernel_rfl) ?_
            refine up_mk rfl ?_
            refine s_sw H 2 rfl rfl rfl rfl rfl rfl rfl sz149 ?_
            clear H; intro _ H; simp only [jA, jB, jC, jD, jE, jF, jG, jH, jI, jJ, jK, Nat.reduceAdd] at H
            refine k_nil ?_
            refine t_on trivial ?_
            refine tqh 16 rfl rfl rfl (fun _ hS => r_as (v := .bool _) rfl) trivial ?_
            refine t_done (by kernel_rfl) ?_
            refine c_norm ?_
            refine k_ret ?_
            refine fx2r rfl (rv_a H 2 rfl rfl rfl ag149 sz149) (rv_t (v := .bool _) rfl) ?_
            exact ⟨⟨P, Q, rfl, fun _ => ⟨rfl, rfl⟩⟩, H.only⟩
      ·rw [decide_eq_false hf, Bool.false_and]
       refine k_in (N := 87) Try.func90 rfl rfl rfl ?_
       refine k_sg ?_
       refine s_box H rfl rfl ?_
       intro p5 _ H'; clear H; have H := H'; clear H'
       refine s_al H rfl inf149 ?_
       intro p8 _ H'; clear H; have H := H'; clear H'
       refine s_run rfl rfl (rab rfl) ?_
       refine k_nc ?_
       refine k_sg ?_
       refine s_run rfl rfl (r_la H 1 rfl rfl rfl ag48 sz48) ?_
       refine s_run rfl rfl (rmi rfl) ?_
       refine s_call rfl (hB _) (ca112 rfl) ?_
       rintro e W1 ⟨rfl, H'⟩
       refine ⟨_, rfl, ?_⟩
       have H := H.same H'; clear H'
       refine s_run rfl rfl (rai rfl) ?_
       refine k_nc ?_
       refine k_seq ?_
       refine k_sg ?_
       refine s_run rfl rfl (rmi rfl) ?_
       refine s_run rfl rfl (r_lssF rfl rfl (by omega)) ?_
       refine s_run rfl rfl (rmb rfl) ?_
       refine s_run rfl (g_on 25 (by kernel_rfl) rfl) (rmi rfl) ?_
       refine s_run rfl (g_on 25 (by kernel_rfl) rfl) (rms rfl) ?_
       refine s_run rfl (g_on 25 (by kernel_rfl) rfl) (r_len rfl Try.underlying49) ?_
       refine s_run rfl (g_on 25 (by kernel_rfl) rfl) (r_geqF rfl rfl (by omega)) ?_
       refine s_run rfl rfl (r_pkF (v := .bool _) rfl rfl) ?_
       refine k_nc ?_
       refine k_f rfl ?_
       refine k_skip ?_
       refine c_norm ?_
       refine k_sg ?_
       refine s_run rfl rfl (rmp rfl) ?_
       refine s_run rfl rfl (rmi rfl) ?_
       refine s_call rfl (hHd H.only) (ca91 rfl) ?_
       rintro e W1 ⟨rfl, H'⟩
       refine ⟨_, rfl, ?_⟩
       have H := H.same H'; clear H'
       refine s_run rfl rfl (rmt rfl) ?_
       refine s_run rfl rfl (r_ext (v := .agg _) rfl rfl) ?_
       refine s_run rfl rfl (r_ext (v := .int _ _) rfl rfl) ?_
       refine s_al H rfl inf149 ?_
       intro p11 _ H'; clear H; have H := H'; clear H'
       refine s_sw H 0 rfl rfl rfl rfl rfl rfl rfl sz149 ?_
       clear H; intro _ H; simp only [jA, jB, jC, jD, jE, jF, jG, jH, jI, jJ, jK, Nat.reduceAdd] at H
       refine s_run rfl rfl (rai rfl) ?_
       refine k_nc ?_
       refine k_seq ?_
       refine k_sg ?_
       refine s_run rfl rfl (rmi rfl) ?_
       refine s_run rfl rfl (r_neqF rfl rfl (by omega)) ?_
       refine k_nc ?_
       refine k_f rfl ?_
       refine k_skip ?_
       refine c_norm ?_
       refine k_sg ?_
       refine s_run rfl rfl (rms rfl) ?_
       refine s_run rfl rfl (rmi rfl) ?_
       refine s_run rfl rfl (r_ix (i := b) rfl rfl (by omega) (by omega) Try.underlying49 sz102) ?_
       refine s_run rfl rfl (r_lA (enc := fun v : Value => v) (zs := [.int .i64 h.1, .int .i64 h.2.1, .int .i64 h.2.2]) (hre.later H.only (by simp)) rfl rfl ag102 sz102) ?_
       refine s_al H rfl inf102 ?_
       intro p13 _ H'; clear H; have H := H'; clear H'
       refine s_sw H 0 rfl rfl rfl rfl rfl rfl rfl sz102 ?_
       clear H; intro _ H; simp only [jA, jB, jC, jD, jE, jF, jG, jH, jI, jJ, jK, Nat.reduceAdd] at H
       refine k_nc ?_
       refine k_sg ?_
       refine s_run rfl rfl (r_la H 1 rfl rfl rfl ag149 sz149) ?_
       refine s_call rfl (hSm _) (ca113 rfl) ?_
       rintro e W1 ⟨rfl, H'⟩
       refine ⟨_, rfl, ?_⟩
       have H := H.same H'; clear H'
       refine s_run rfl rfl (rmt rfl) ?_
       refine s_run rfl rfl (r_ext (v := .int _ _) rfl rfl) ?_
       refine s_run rfl rfl (r_ext (v := .bool _) rfl rfl) ?_
       refine s_run rfl rfl (rai rfl) ?_
       refine s_run rfl rfl (rab rfl) ?_
       refine k_nc ?_
       refine k_seq ?_
       refine k_sg ?_
       refine s_run rfl rfl (rmb rfl) ?_
       refine k_nc ?_
       refine k_f rfl ?_
       refine k_skip ?_
       refine c_norm ?_
       refine k_sg ?_
       refine s_run rfl rfl (rms rfl) ?_
       refine s_run rfl rfl (rmi rfl) ?_
       refine s_call rfl (hWh H.only) (ca115 rfl) ?_
       rintro e W1 ⟨rfl, H'⟩
       refine ⟨_, rfl, ?_⟩
       have H := H.same H'; clear H'
       refine s_run rfl rfl (rmt rfl) ?_
       refine s_run rfl rfl (r_ext (v := .int _ _) rfl rfl) ?_
       refine s_run rfl rfl (r_ext (v := .bool _) rfl rfl) ?_
       refine s_run rfl rfl (rai rfl) ?_
       refine s_run rfl rfl (rab rfl) ?_
       refine k_nc ?_
       refine k_seq ?_
       refine k_trF mixed ?_; have H' := H.drew; clear H; have H := H'; clear H'
       refine tqh 1 rfl rfl rfl (fun _ hS => r_mv (v := .bool _) rfl) trivial ?_
       refine tqh 2 rfl rfl rfl (fun _ hS => r_mv (v := .bool _) rfl) trivial ?_
       refine tqh 3 rfl rfl (g_on 74 (by kernel_rfl) rfl) (fun _ hS => r_mv (v := .int _ _) rfl) trivial ?_
       refine tqh 5 rfl rfl (g_on 74 (by kernel_rfl) rfl) (fun _ hS => r_mv (v := .int _ _) rfl) trivial ?_
       refine t_up2 0 4 (by kernel_rfl) ?_ ?_
       ·refine up_mk rfl ?_
        refine s_run rfl rfl (r_la H 1 rfl rfl rfl ag149 sz149) ?_
        refine k_nil ?_
        refine t_on trivial ?_
        refine t_up1 4 (by kernel_rfl) ?_
        refine up_mk rfl ?_
        refine s_run rfl (g_on 74 (by kernel_rfl) rfl) (r_la H 3 rfl rfl rfl ag48 sz48) ?_
        refine k_nil ?_
        refine t_on trivial ?_
        refine t_up1 6 (by kernel_rfl) ?_
        refine up_mk rfl ?_
        refine s_call (g_on 74 (by kernel_rfl) rfl) (hFi _) (ca116 rfl) ?_
        rintro e W1 ⟨rfl, H'⟩
        refine ⟨_, rfl, ?_⟩
        have H := H.same H'; clear H'
        refine k_nil ?_
        refine t_on trivial ?_
        refine tqh 7 rfl rfl (g_on 74 (by kernel_rfl) rfl) (fun _ hS => r_eqlF rfl rfl (by omega)) trivial ?_
        refine tqh 8 rfl rfl rfl (fun _ hS => r_pkT (v := .bool _) rfl rfl) trivial ?_
        refine tqh 9 rfl rfl rfl (fun _ hS => r_mv (v := .bool _) rfl) trivial ?_
        refine toh 10 rfl rfl (g_off 81 (by kernel_rfl) rfl rfl) trivial ?_
        refine toh 11 rfl rfl (g_off 81 (by kernel_rfl) rfl rfl) trivial ?_
        refine toh 12 rfl rfl (g_off 81 (by kernel_rfl) rfl rfl) trivial ?_
        refine toh 13 rfl rfl (g_off 81 (by kernel_rfl) rfl rfl) trivial ?_
        refine tqh 14 rfl rfl rfl (fun _ hS => r_pkF (v := .bool _) rfl rfl) trivial ?_
        refine t_up1 15 (by kernel_rfl) ?_
        refine up_mk rfl ?_
        refine s_sw H 2 rfl rfl rfl rfl rfl rfl rfl sz149 ?_
        clear H; intro _ H; simp only [jA, jB, jC, jD, jE, jF, jG, jH, jI, jJ, jK, Nat.reduceAdd] at H
        refine k_nil ?_
        refine t_on trivial ?_
        refine tqh 16 rfl rfl rfl (fun _ hS => r_as (v := .bool _) rfl) trivial ?_
        refine t_done (by kernel_rfl) ?_
        refine c_norm ?_
        refine k_ret ?_
        refine fx2r rfl (rv_a H 2 rfl rfl rfl ag149 sz149) (rv_t (v := .bool _) rfl) ?_
        exact ⟨⟨P, Q, rfl, fun _ => ⟨rfl, rfl⟩⟩, H.only⟩
       ·refine up_mk rfl ?_
        refine s_run rfl (g_on 74 (by kernel_rfl) rfl) (r_la H 3 rfl rfl rfl ag48 sz48) ?_
        refine k_nil ?_
        refine t_on trivial ?_
        refine t_up2 0 6 (by kernel_rfl) ?_ ?_
        ·refine up_mk rfl ?_
         refine s_run rfl rfl (r_la H 1 rfl rfl rfl ag149 sz149) ?_
         refine k_nil ?_
         refine t_on trivial ?_
         refine t_up1 6 (by kernel_rfl) ?_
         refine up_mk rfl ?_
         refine s_call (g_on 74 (by kernel_rfl) rfl) (hFi _) (ca116 rfl) ?_
         rintro e W1 ⟨rfl, H'⟩
         refine ⟨_, rfl, ?_⟩
         have H := H.same H'; clear H'
         refine k_nil ?_
         refine t_on trivial ?_
         refine tqh 7 rfl rfl (g_on 74 (by kernel_rfl) rfl) (fun _ hS => r_eqlF rfl rfl (by omega)) trivial ?_
         refine tqh 8 rfl rfl rfl (fun _ hS => r_pkT (v := .bool _) rfl rfl) trivial ?_
         refine tqh 9 rfl rfl rfl (fun _ hS => r_mv (v := .bool _) rfl) trivial ?_
         refine toh 10 rfl rfl (g_off 81 (by kernel_rfl) rfl rfl) trivial ?_
         refine toh 11 rfl rfl (g_off 81 (by kernel_rfl) rfl rfl) trivial ?_
         refine toh 12 rfl rfl (g_off 81 (by kernel_rfl) rfl rfl) trivial ?_
         refine toh 13 rfl rfl (g_off 81 (by kernel_rfl) rfl rfl) trivial ?_
         refine tqh 14 rfl rfl rfl (fun _ hS => r_pkF (v := .bool _) rfl rfl) trivial ?_
         refine t_up1 15 (by kernel_rfl) ?_
         refine up_mk rfl ?_
         refine s_sw H 2 rfl rfl rfl rfl rfl rfl rfl sz149 ?_
         clear H; intro _ H; simp only [jA, jB, jC, jD, jE, jF, jG, jH, jI, jJ, jK, Nat.reduceAdd] at H
         refine k_nil ?_
         refine t_on trivial ?_
         refine tqh 16 rfl rfl rfl (fun _ hS => r_as (v := .bool _) rfl) trivial ?_
         refine t_done (by kernel_rfl) ?_
         refine c_norm ?_
         refine k_ret ?_
         refine fx2r rfl (rv_a H 2 rfl rfl rfl ag149 sz149) (rv_t (v := .bool _) rfl) ?_
         exact ⟨⟨P, Q, rfl, fun _ => ⟨rfl, rfl⟩⟩, H.only⟩
        ·refine up_mk rfl ?_
         refine s_call (g_on 74 (by kernel_rfl) rfl) (hFi _) (ca116 rfl) ?_
         rintro e W1 ⟨rfl, H'⟩
         refine ⟨_, rfl, ?_⟩
         have H := H.same H'; clear H'
         refine k_nil ?_
         refine t_on trivial ?_
         refine tqh 7 rfl rfl (g_on 74 (by kernel_rfl) rfl) (fun _ hS => r_eqlF rfl rfl (by omega)) trivial ?_
         refine tqh 8 rfl rfl rfl (fun _ hS => r_pkT (v := .bool _) rfl rfl) trivial ?_
         refine tqh 9 rfl rfl rfl (fun _ hS => r_mv (v := .bool _) rfl) trivial ?_
         refine toh 10 rfl rfl (g_off 81 (by kernel_rfl) rfl rfl) trivial ?_
         refine toh 11 rfl rfl (g_off 81 (by kernel_rfl) rfl rfl) trivial ?_
         refine toh 12 rfl rfl (g_off 81 (by kernel_rfl) rfl rfl) trivial ?_
         refine toh 13 rfl rfl (g_off 81 (by kernel_rfl) rfl rfl) trivial ?_
         refine tqh 14 rfl rfl rfl (fun _ hS => r_pkF (v := .bool _) rfl rfl) trivial ?_
         refine t_up1 0 (by kernel_rfl) ?_
         refine up_mk rfl ?_
         refine s_run rfl rfl (r_la H 1 rfl rfl rfl ag149 sz149) ?_
         refine k_nil ?_
         refine t_on trivial ?_
         refine t_up1 15 (by kernel_rfl) ?_
         refine up_mk rfl ?_
         refine s_sw H 2 rfl rfl rfl rfl rfl rfl rfl sz149 ?_
         clear H; intro _ H; simp only [jA, jB, jC, jD, jE, jF, jG, jH, jI, jJ, jK, Nat.reduceAdd] at H
         refine k_nil ?_
         refine t_on trivial ?_
         refine tqh 16 rfl rfl rfl (fun _ hS => r_as (v := .bool _) rfl) trivial ?_
         refine t_done (by kernel_rfl) ?_
         refine c_norm ?_
         refine k_ret ?_
         refine fx2r rfl (rv_a H 2 rfl rfl rfl ag149 sz149) (rv_t (v := .bool _) rfl) ?_
         exact ⟨⟨P, Q, rfl, fun _ => ⟨rfl, rfl⟩⟩, H.only⟩
     | false =>
      rw [hwh] at hWh
      rw [Bool.false_and]
      refine k_in (N := 87) Try.func90 rfl rfl rfl ?_
      refine k_sg ?_
      refine s_box H rfl rfl ?_
      intro p5 _ H'; clear H; have H := H'; clear H'
      refine s_al H rfl inf149 ?_
      intro p8 _ H'; clear H; have H := H'; clear H'
      refine s_run rfl rfl (rab rfl) ?_
      refine k_nc ?_
      refine k_sg ?_
      refine s_run rfl rfl (r_la H 1 rfl rfl rfl ag48 sz48) ?_
      refine s_run rfl rfl (rmi rfl) ?_
      refine s_call rfl (hB _) (ca112 rfl) ?_
      rintro e W1 ⟨rfl, H'⟩
      refine ⟨_, rfl, ?_⟩
      have H := H.same H'; clear H'
      refine s_run rfl rfl (rai rfl) ?_
      refine k_nc ?_
      refine k_seq ?_
      refine k_sg ?_
      refine s_run rfl rfl (rmi rfl) ?_
      refine s_run rfl rfl (r_lssF rfl rfl (by omega)) ?_
      refine s_run rfl rfl (rmb rfl) ?_
      refine s_run rfl (g_on 25 (by kernel_rfl) rfl) (rmi rfl) ?_
      refine s_run rfl (g_on 25 (by kernel_rfl) rfl) (rms rfl) ?_
      refine s_run rfl (g_on 25 (by kernel_rfl) rfl) (r_len rfl Try.underlying49) ?_
      refine s_run rfl (g_on 25 (by kernel_rfl) rfl) (r_geqF rfl rfl (by omega)) ?_
      refine s_run rfl rfl (r_pkF (v := .bool _) rfl rfl) ?_
      refine k_nc ?_
      refine k_f rfl ?_
      refine k_skip ?_
      refine c_norm ?_
      refine k_sg ?_
      refine s_run rfl rfl (rmp rfl) ?_
      refine s_run rfl rfl (rmi rfl) ?_
      refine s_call rfl (hHd H.only) (ca91 rfl) ?_
      rintro e W1 ⟨rfl, H'⟩
      refine ⟨_, rfl, ?_⟩
      have H := H.same H'; clear H'
      refine s_run rfl rfl (rmt rfl) ?_
      refine s_run rfl rfl (r_ext (v := .agg _) rfl rfl) ?_
      refine s_run rfl rfl (r_ext (v := .int _ _) rfl rfl) ?_
      refine s_al H rfl inf149 ?_
      intro p11 _ H'; clear H; have H := H'; clear H'
      refine s_sw H 0 rfl rfl rfl rfl rfl rfl rfl sz149 ?_
      clear H; intro _ H; simp only [jA, jB, jC, jD, jE, jF, jG, jH, jI, jJ, jK, Nat.reduceAdd] at H
      refine s_run rfl rfl (rai rfl) ?_
      refine k_nc ?_
      refine k_seq ?_
      refine k_sg ?_
      refine s_run rfl rfl (rmi rfl) ?_
      refine s_run rfl rfl (r_neqF rfl rfl (by omega)) ?_
      refine k_nc ?_
      refine k_f rfl ?_
      refine k_skip ?_
      refine c_norm ?_
      refine k_sg ?_
      refine s_run rfl rfl (rms rfl) ?_
      refine s_run rfl rfl (rmi rfl) ?_
      refine s_run rfl rfl (r_ix (i := b) rfl rfl (by omega) (by omega) Try.underlying49 sz102) ?_
      refine s_run rfl rfl (r_lA (enc := fun v : Value => v) (zs := [.int .i64 h.1, .int .i64 h.2.1, .int .i64 h.2.2]) (hre.later H.only (by simp)) rfl rfl ag102 sz102) ?_
      refine s_al H rfl inf102 ?_
      intro p13 _ H'; clear H; have H := H'; clear H'
      refine s_sw H 0 rfl rfl rfl rfl rfl rfl rfl sz102 ?_
      clear H; intro _ H; simp only [jA, jB, jC, jD, jE, jF, jG, jH, jI, jJ, jK, Nat.reduceAdd] at H
      refine k_nc ?_
      refine k_sg ?_
      refine s_run rfl rfl (r_la H 1 rfl rfl rfl ag149 sz149) ?_
      refine s_call rfl (hSm _) (ca113 rfl) ?_
      rintro e W1 ⟨rfl, H'⟩
      refine ⟨_, rfl, ?_⟩
      have H := H.same H'; clear H'
      refine s_run rfl rfl (rmt rfl) ?_
      refine s_run rfl rfl (r_ext (v := .int _ _) rfl rfl) ?_
      refine s_run rfl rfl (r_ext (v := .bool _) rfl rfl) ?_
      refine s_run rfl rfl (rai rfl) ?_
      refine s_run rfl rfl (rab rfl) ?_
      refine k_nc ?_
      refine k_seq ?_
      refine k_sg ?_
      refine s_run rfl rfl (rmb rfl) ?_
      refine k_nc ?_
      refine k_f rfl ?_
      refine k_skip ?_
      refine c_norm ?_
      refine k_sg ?_
      refine s_run rfl rfl (rms rfl) ?_
      refine s_run rfl rfl (rmi rfl) ?_
      refine s_call rfl (hWh H.only) (ca115 rfl) ?_
      rintro e W1 ⟨rfl, H'⟩
      refine ⟨_, rfl, ?_⟩
      have H := H.same H'; clear H'
      refine s_run rfl rfl (rmt rfl) ?_
      refine s_run rfl rfl (r_ext (v := .int _ _) rfl rfl) ?_
      refine s_run rfl rfl (r_ext (v := .bool _) rfl rfl) ?_
      refine s_run rfl rfl (rai rfl) ?_
      refine s_run rfl rfl (rab rfl) ?_
      refine k_nc ?_
      refine k_seq ?_
      refine k_trF mixed ?_; have H' := H.drew; clear H; have H := H'; clear H'
      refine tqh 1 rfl rfl rfl (fun _ hS => r_mv (v := .bool _) rfl) trivial ?_
      refine tqh 2 rfl rfl rfl (fun _ hS => r_mv (v := .bool _) rfl) trivial ?_
      refine toh 3 rfl rfl (g_off 74 (by kernel_rfl) rfl rfl) trivial ?_
      refine toh 4 rfl rfl (g_off 74 (by kernel_rfl) rfl rfl) trivial ?_
      refine toh 5 rfl rfl (g_off 74 (by kernel_rfl) rfl rfl) trivial ?_
      refine toh 6 rfl rfl (g_off 74 (by kernel_rfl) rfl rfl) trivial ?_
      refine toh 7 rfl rfl (g_off 74 (by kernel_rfl) rfl rfl) trivial ?_
      refine tqh 8 rfl rfl rfl (fun _ hS => r_pkF (v := .bool _) rfl rfl) trivial ?_
      refine tqh 9 rfl rfl rfl (fun _ hS => r_mv (v := .bool _) rfl) trivial ?_
      refine toh 10 rfl rfl (g_off 81 (by kernel_rfl) rfl rfl) trivial ?_
      refine toh 11 rfl rfl (g_off 81 (by kernel_rfl) rfl rfl) trivial ?_
      refine toh 12 rfl rfl (g_off 81 (by kernel_rfl) rfl rfl) trivial ?_
      refine toh 13 rfl rfl (g_off 81 (by kernel_rfl) rfl rfl) trivial ?_
      refine tqh 14 rfl rfl rfl (fun _ hS => r_pkF (v := .bool _) rfl rfl) trivial ?_
      refine t_up1 0 (by kernel_rfl) ?_
      refine up_mk rfl ?_
      refine s_run rfl rfl (r_la H 1 rfl rfl rfl ag149 sz149) ?_
      refine k_nil ?_
      refine t_on trivial ?_
      refine t_up1 15 (by kernel_rfl) ?_
      refine up_mk rfl ?_
      refine s_sw H 2 rfl rfl rfl rfl rfl rfl rfl sz149 ?_
      clear H; intro _ H; simp only [jA, jB, jC, jD, jE, jF, jG, jH, jI, jJ, jK, Nat.reduceAdd] at H
      refine k_nil ?_
      refine t_on trivial ?_
      refine tqh 16 rfl rfl rfl (fun _ hS => r_as (v := .bool _) rfl) trivial ?_
      refine t_done (by kernel_rfl) ?_
      refine c_norm ?_
      refine k_ret ?_
      refine fx2r rfl (rv_a H 2 rfl rfl rfl ag149 sz149) (rv_t (v := .bool _) rfl) ?_
      exact ⟨⟨P, Q, rfl, fun _ => ⟨rfl, rfl⟩⟩, H.only⟩
  ·have hp : Ob.pl n d.cache hs a = false := by unfold Ob.pl; rw [hb, Int.toNat_natCast, List.getElem?_eq_none (by omega)]; simp
   rw [hp]
   refine k_in (N := 87) Try.func90 rfl rfl rfl ?_
   refine k_sg ?_
   refine s_box H rfl rfl ?_
   intro p5 _ H'; clear H; have H := H'; clear H'
   refine s_al H rfl inf149 ?_
   intro p8 _ H'; clear H; have H := H'; clear H'
   refine s_run rfl rfl (rab rfl) ?_
   refine k_nc ?_
   refine k_sg ?_
   refine s_run rfl rfl (r_la H 1 rfl rfl rfl ag48 sz48) ?_
   refine s_run rfl rfl (rmi rfl) ?_
   refine s_call rfl (hB _) (ca112 rfl) ?_
   rintro e W1 ⟨rfl, H'⟩
   refine ⟨_, rfl, ?_⟩
   have H := H.same H'; clear H'
   refine s_run rfl rfl (rai rfl) ?_
   refine k_nc ?_
   refine k_seq ?_
   refine k_sg ?_
   refine s_run rfl rfl (rmi rfl) ?_
   refine s_run rfl rfl (r_lssF rfl rfl (by omega)) ?_
   refine s_run rfl rfl (rmb rfl) ?_
   refine s_run rfl (g_on 25 (by kernel_rfl) rfl) (rmi rfl) ?_
   refine s_run rfl (g_on 25 (by kernel_rfl) rfl) (rms rfl) ?_
   refine s_run rfl (g_on 25 (by kernel_rfl) rfl) (r_len rfl Try.underlying49) ?_
   refine s_run rfl (g_on 25 (by kernel_rfl) rfl) (r_geqT rfl rfl (by omega)) ?_
   refine s_run rfl rfl (r_pkF (v := .bool _) rfl rfl) ?_
   refine k_nc ?_
   refine k_t rfl ?_
   refine k_sg ?_
   refine s_run rfl rfl (r_bd (bd149 ) rfl) ?_
   refine s_sw H 0 rfl rfl rfl rfl rfl rfl rfl sz149 ?_
   clear H; intro _ H; simp only [jA, jB, jC, jD, jE, jF, jG, jH, jI, jJ, jK, Nat.reduceAdd] at H
   refine s_run rfl rfl (rab rfl) ?_
   refine k_nc ?_
   refine k_ret ?_
   refine c_ret ?_
   refine fx2r rfl (rv_a H 0 rfl rfl rfl ag149 sz149) (rv_t (v := .bool _) rfl) ?_
   exact ⟨⟨0, 0, rfl, fun h => by cases h⟩, H.only⟩
 ·have hp : Ob.pl n d.cache hs a = false := by unfold Ob.pl; rw [decide_eq_false hin]; rfl
  have hbo : blockOf n a < 1 := by unfold blockOf; split <;> omega
  rw [hp]
  generalize blockOf n a = bb at *
  refine k_in (N := 87) Try.func90 rfl rfl rfl ?_
  refine k_sg ?_
  refine s_box H rfl rfl ?_
  intro p5 _ H'; clear H; have H := H'; clear H'
  refine s_al H rfl inf149 ?_
  intro p8 _ H'; clear H; have H := H'; clear H'
  refine s_run rfl rfl (rab rfl) ?_
  refine k_nc ?_
  refine k_sg ?_
  refine s_run rfl rfl (r_la H 1 rfl rfl rfl ag48 sz48) ?_
  refine s_run rfl rfl (rmi rfl) ?_
  refine s_call rfl (hB _) (ca112 rfl) ?_
  rintro e W1 ⟨rfl, H'⟩
  refine ⟨_, rfl, ?_⟩
  have H := H.same H'; clear H'
  refine s_run rfl rfl (rai rfl) ?_
  refine k_nc ?_
  refine k_seq ?_
  refine k_sg ?_
  refine s_run rfl rfl (rmi rfl) ?_
  refine s_run rfl rfl (r_lssT rfl rfl (by omega)) ?_
  refine s_run rfl rfl (rmb rfl) ?_
  refine s_off rfl (g_off 25 (by kernel_rfl) rfl rfl) ?_
  refine s_off rfl (g_off 25 (by kernel_rfl) rfl rfl) ?_
  refine s_off rfl (g_off 25 (by kernel_rfl) rfl rfl) ?_
  refine s_off rfl (g_off 25 (by kernel_rfl) rfl rfl) ?_
  refine s_run rfl rfl (r_pkT (v := .bool _) rfl rfl) ?_
  refine k_nc ?_
  refine k_t rfl ?_
  refine k_sg ?_
  refine s_run rfl rfl (r_bd (bd149 ) rfl) ?_
  refine s_sw H 0 rfl rfl rfl rfl rfl rfl rfl sz149 ?_
  clear H; intro _ H; simp only [jA, jB, jC, jD, jE, jF, jG, jH, jI, jJ, jK, Nat.reduceAdd] at H
  refine s_run rfl rfl (rab rfl) ?_
  refine k_nc ?_
  refine k_ret ?_
  refine c_ret ?_
  refine fx2r rfl (rv_a H 0 rfl rfl rfl ag149 sz149) (rv_t (v := .bool _) rfl) ?_
  exact ⟨⟨0, 0, rfl, fun h => by cases h⟩, H.only⟩
end Go.Proofs.Ytlakbclnilakbaa
end

section
namespace Go.Proofs.Ytlakbclnilakbaa.Tr
structure S where
 seen : List Int
 op : List Int
 bad : List ((Int × Int) × Int)
def s0 : S := ⟨[], [], []⟩
def reach (P : Int → Bool) (s : S) (e : Int × Int) (a : Int) : S :=
 if a = 0 ∨ a ∈ s.seen then s else if P a = true then ⟨s.seen ++ [a], s.op ++ [a], s.bad⟩ else ⟨s.seen, s.op, mput s.bad e a⟩
def code (P : Int → Bool) (s : S) (a : Int) : Int := if a = 0 ∨ a ∈ s.seen then 0 else if P a = true then 0 else 22
def along (P : Int → Bool) (s : S) (y : Int) (l : List Int) : Nat → S
 | 0 => s
 | i + 1 => reach P (along P s y l i) (y, (i : Int)) (l.getD i 0)
def top (s : S) : Int := s.op.getD (s.op.length - 1) 0
def pop (s : S) : S := ⟨s.seen, s.op.take (s.op.length - 1), s.bad⟩
def step (P : Int → Bool) (pt : Int → List Int) (s : S) : S := along P (pop s) (top s) (pt (top s)) (pt (top s)).length
def steps (P : Int → Bool) (pt : Int → List Int) (s : S) : Nat → S
 | 0 => s
 | k + 1 => step P pt (steps P pt s k)
def rootsTo (P : Int → Bool) (s : S) (l : List Int) : Nat → S
 | 0 => s
 | i + 1 => reach P (rootsTo P s l i) (-1, 0) (l.getD i 0)
/-- what holds of a tracer: what is seen is placed and each once; what is open is seen, each once -/
structure Ok (P : Int → Bool) (s : S) : Prop where
 nd : s.seen.Nodup
 pl : ∀ x ∈ s.seen, P x = true
 sub : ∀ x ∈ s.op, x ∈ s.seen
 ondup : s.op.Nodup
 bnd : (s.bad.map Prod.fst).Nodup
theorem ok0 (P : Int → Bool) : Ok P s0 := ⟨by simp [s0], by simp [s0], by simp [s0], by simp [s0], by simp [s0]⟩
theorem mput_nd {α β : Type} [DecidableEq α] : ∀ (l : List (α × β)) (a : α) (v : β), (l.map Prod.fst).Nodup → ((mput l a v).map Prod.fst).Nodup ∧ ∀ z, z ∈ (mput l a v).map Prod.fst ↔ z = a ∨ z ∈ l.map Prod.fst
 | [], a, v, _ => by simp [mput]
 | p :: l, a, v, h => by
  simp only [List.map_cons, List.nodup_cons] at h
  obtain ⟨h1, h2⟩ := mput_nd l a v h.2
  unfold mput
  split
  ·rename_i e
   subst e
   refine ⟨by simpa using h, fun z => ?_⟩
   simp
  ·rename_i e
   simp only [List.map_cons, List.nodup_cons, List.mem_cons]
   refine ⟨⟨fun hm => ?_, h1⟩, fun z => ?_⟩
   ·rcases (h2 _).1 hm with h3 | h3
    ·exact e h3
    ·exact h.1 h3
   ·rw [h2 z]
    constructor
    ·rintro (h3 | h3 | h3)
     ·exact .inr (.inl h3)
     ·exact .inl h3
     ·exact .inr (.inr h3)
    ·rintro (h3 | h3 | h3)
     ·exact .inr (.inl h3)
     ·exact .inl h3
     ·exact .inr (.inr h3)
theorem mput_len {α β : Type} [DecidableEq α] : ∀ (l : List (α × β)) (a : α) (v : β), (mput l a v).length ≤ l.length + 1 ∧ 0 < (mput l a v).length
 | [], a, v => by simp [mput]
 | p :: l, a, v => by
  have := mput_len l a v
  unfold mput
  split
  ·simp
  ·simp; omega
theorem Ok.reach {P : Int → Bool} {s : S} (h : Ok P s) (e : Int × Int) (a : Int) : Ok P (reach P s e a) := by
 unfold Tr.reach
 split
 ·exact h
 ·rename_i ha
  have ha2 : a ∉ s.seen := fun hm => ha (.inr hm)
  split
  ·rename_i hp
   refine ⟨?_, fun x hx => ?_, fun x hx => ?_, ?_, h.bnd⟩
   ·rw [List.nodup_append]; exact ⟨h.nd, by simp, fun x hx y hy e => ha2 (by rw [List.mem_singleton.1 hy] at e; rw [← e]; exact hx)⟩
   ·rcases List.mem_append.1 hx with h1 | h1
    ·exact h.pl x h1
    ·rw [List.mem_singleton.1 h1]; exact hp
   ·rcases List.mem_append.1 hx with h1 | h1
    ·exact List.mem_append_left _ (h.sub x h1)
    ·exact List.mem_append_right _ h1
   ·show (s.op ++ [a]).Nodup
    rw [List.nodup_append]; exact ⟨h.ondup, by simp, fun x hx y hy e => ha2 (by rw [List.mem_singleton.1 hy] at e; rw [← e]; exact h.sub x hx)⟩
  ·exact ⟨h.nd, h.pl, h.sub, h.ondup, (mput_nd s.bad e a h.bnd).1⟩
theorem Ok.along {P : Int → Bool} {s : S} (h : Ok P s) (y : Int) (l : List Int) : ∀ k, Ok P (along P s y l k)
 | 0 => h
 | k + 1 => (Ok.along h y l k).reach _ _
theorem Ok.pop {P : Int → Bool} {s : S} (h : Ok P s) : Ok P (pop s) :=
 ⟨h.nd, h.pl, fun x hx => h.sub x (List.mem_of_mem_take hx), h.ondup.sublist (List.take_sublist _ _), h.bnd⟩
theorem Ok.step {P : Int → Bool} {pt : Int → List Int} {s : S} (h : Ok P s) : Ok P (step P pt s) := h.pop.along _ _ _
theorem Ok.steps {P : Int → Bool} {pt : Int → List Int} {s : S} (h : Ok P s) : ∀ k, Ok P (steps P pt s k)
 | 0 => h
 | k + 1 => (Ok.steps h k).step
theorem Ok.rootsTo {P : Int → Bool} {s : S} (h : Ok P s) (l : List Int) : ∀ k, Ok P (rootsTo P s l k)
 | 0 => h
 | k + 1 => (Ok.rootsTo h l k).reach _ _
/-- as many are seen as are open, and some -/
theorem reach_len (P : Int → Bool) (s : S) (e : Int × Int) (a : Int) (k : Nat) (h : s.seen.length = s.op.length + k) : (reach P s e a).seen.length = (reach P s e a).op.length + k := by
 unfold reach; split
 ·exact h
 ·split
  ·simp; omega
  ·exact h
theorem along_len (P : Int → Bool) (s : S) (y : Int) (l : List Int) (k : Nat) (h : s.seen.length = s.op.length + k) : ∀ i, (along P s y l i).seen.length = (along P s y l i).op.length + k
 | 0 => h
 | i + 1 => reach_len _ _ _ _ _ (along_len P s y l k h i)
theorem step_len (P : Int → Bool) (pt : Int → List Int) (s : S) (k : Nat) (h : s.seen.length = s.op.length + k) (h0 : s.op ≠ []) : (step P pt s).seen.length = (step P pt s).op.length + (k + 1) := by
 refine along_len P _ _ _ (k + 1) ?_ _
 have := List.length_pos_iff.2 h0
 show s.seen.length = (s.op.take (s.op.length - 1)).length + (k + 1)
 rw [List.length_take]; omega
theorem rootsTo_len (P : Int → Bool) (l : List Int) : ∀ k, (rootsTo P s0 l k).seen.length = (rootsTo P s0 l k).op.length + 0
 | 0 => rfl
 | k + 1 => reach_len _ _ _ _ _ (rootsTo_len P l k)
/-- what is seen stays so -/
theorem reach_sub (P : Int → Bool) (s : S) (e : Int × Int) (a : Int) : ∀ x ∈ s.seen, x ∈ (reach P s e a).seen := fun x hx => by
 unfold reach; split
 ·exact hx
 ·split
  ·exact List.mem_append_left _ hx
  ·exact hx
theorem along_sub (P : Int → Bool) (s : S) (y : Int) (l : List Int) : ∀ i, ∀ x ∈ s.seen, x ∈ (along P s y l i).seen
 | 0, x, hx => hx
 | i + 1, x, hx => reach_sub _ _ _ _ x (along_sub P s y l i x hx)
theorem step_sub (P : Int → Bool) (pt : Int → List Int) (s : S) : ∀ x ∈ s.seen, x ∈ (step P pt s).seen := fun x hx => along_sub P (pop s) _ _ _ x hx
theorem steps_sub (P : Int → Bool) (pt : Int → List Int) (s : S) (k : Nat) : ∀ j, ∀ x ∈ (steps P pt s k).seen, x ∈ (steps P pt s (k + j)).seen
 | 0, x, hx => hx
 | j + 1, x, hx => step_sub _ _ _ x (steps_sub P pt s k j x hx)
theorem steps_len (P : Int → Bool) (pt : Int → List Int) (s : S) (h : s.seen.length = s.op.length + 0) : ∀ k, (∀ j, j < k → (steps P pt s j).op ≠ []) → (steps P pt s k).seen.length = (steps P pt s k).op.length + k
 | 0, _ => h
 | k + 1, ho => step_len P pt _ k (steps_len P pt s h k fun j hj => ho j (by omega)) (ho k (by omega))
theorem reach_bad (P : Int → Bool) (s : S) (e : Int × Int) (a : Int) : (reach P s e a).bad.length ≤ s.bad.length + 1 ∧ ((reach P s e a).bad = [] → s.bad = [] ∧ (a = 0 ∨ a ∈ (reach P s e a).seen)) ∧ (code P s a = 0 → a = 0 ∨ a ∈ (reach P s e a).seen) := by
 have hl := mput_len s.bad e a
 unfold reach code; split
 ·rename_i h
  exact ⟨by omega, fun h2 => ⟨h2, h⟩, fun _ => h⟩
 ·split
  ·exact ⟨Nat.le_succ _, fun h2 => ⟨h2, .inr (by simp)⟩, fun _ => .inr (by simp)⟩
  ·exact ⟨hl.1, fun h2 => by have : mput s.bad e a = [] := h2; rw [this] at hl; simp at hl, fun h => by cases h⟩
/-- a row of numbers, each once, within bounds, is no longer than these -/
theorem nd_bound : ∀ (N : Nat) (l : List Int), l.Nodup → (∀ x ∈ l, 0 ≤ x ∧ x < (N : Int)) → l.length ≤ N
 | 0, [], _, _ => Nat.le_refl _
 | 0, x :: l, _, h => by have := h x (by simp); omega
 | N + 1, l, hn, h => by
  by_cases hm : (N : Int) ∈ l
  ·have h1 := nd_bound N (l.erase (N : Int)) (hn.erase _) (fun x hx => by
    have h2 := h x (List.mem_of_mem_erase hx)
    have h3 : x ≠ (N : Int) := fun e => by subst e; exact (List.Nodup.not_mem_erase hn) hx
    omega)
   rw [List.length_erase_of_mem hm] at h1
   omega
  ·have h1 := nd_bound N l hn (fun x hx => by
    have h2 := h x hx
    have h3 : x ≠ (N : Int) := fun e => hm (by rw [← e]; exact hx)
    omega)
   omega
end Go.Proofs.Ytlakbclnilakbaa.Tr
end

section
namespace Go.Proofs.Ytlakbclnilakbaa
theorem keyOf_pairS {P : Program} {k e0 e1 : TypeId} {q0 q1 : IntKind} (hu : P.underlying k = some (.struct (P.fieldsOf k))) (hf : (P.fieldsOf k).toList.map (fun f => (f.name != "_", f.type, f.offset)) = [(true, e0, 0), (true, e1, 1)]) (h0 : P.underlying e0 = some (.int q0)) (h1 : P.underlying e1 = some (.int q1))
  (hc : P.cellsOf k = 2) (c0 : P.cellsOf e0 = 1) (c1 : P.cellsOf e1 = 1) (hkt : P.keyType k = true) (hsz : ∃ m, P.types.size = m + 1) {a b : Int} (wa : (Lit.int q0 a).wf = true) (wb : (Lit.int q1 b).wf = true) :
  ∃ l, keyOf P k (.agg [.int q0 a, .int q1 b].toArray) = some l := by
 obtain ⟨m, hm⟩ := hsz
 unfold keyOf
 generalize P.fieldsOf k = fs at hu hf
 simp only [hu]
 rw [if_pos (by simp [hkt, Value.formed, hu, hc]), hm]
 obtain ⟨l⟩ := fs
 simp only at hf
 obtain ⟨f1, f2, rfl⟩ : ∃ f1 f2, l = [f1, f2] := by
  have := congrArg List.length hf
  simp only [List.length_map, List.length_cons, List.length_nil] at this
  rcases l with _ | ⟨f1, _ | ⟨f2, _ | ⟨f3, l⟩⟩⟩
  ·simp at this
  ·simp at this
  ·exact ⟨f1, f2, rfl⟩
  ·simp at this
 simp only [List.map_cons, List.map_nil, List.cons.injEq, Prod.mk.injEq, and_true, bne_iff_ne] at hf
 obtain ⟨⟨n1, rfl, o1⟩, n2, rfl, o2⟩ := hf
 unfold Program.keyLits
 simp only [hu, Value.cells]
 rw [if_pos ⟨by rw [hc]; rfl, by simp [n1, n2]⟩]
 simp [List.mapM_cons, o1, o2, c0, c1, Program.keyLits, h0, h1, wa, wb]
theorem agg2_inj {k0 k1 : IntKind} {a b : Int × Int} (h : Value.agg [.int k0 a.1, .int k1 a.2].toArray = Value.agg [.int k0 b.1, .int k1 b.2].toArray) : a = b := by
 obtain ⟨a1, a2⟩ := a
 obtain ⟨b1, b2⟩ := b
 simp at h
 simp [h.1, h.2]
end Go.Proofs.Ytlakbclnilakbaa
end

section
namespace Go.Proofs.Ytlakbclnilakbaa
open Go.RowKit
set_option maxRecDepth 100000
set_option maxHeartbeats 4000000
def i64ok (a : Int) : Prop := -9223372036854775808 ≤ a ∧ a ≤ 9223372036854775807
theorem laidT : laidOutB Try.prog = true := by kernel_rfl
theorem keyedE : Go.Maps.Keyed Try.prog 113 := Go.Maps.Keyed.of_law (deep_law_laid laidT (m := 2) (by omega) (of_decide_eq_true (by kernel_rfl)) (by kernel_rfl) (by rw [Try.underlying113]))
def kE : KC Try.prog 113 (Int × Int) :=
 ⟨fun a => .agg [.int .i64 a.1, .int .i64 a.2].toArray, fun a => i64ok a.1 ∧ i64ok a.2, keyedE, fun a ha => keyOf_pairS (by kernel_rfl) (by kernel_rfl) Try.underlying3 Try.underlying3 (by kernel_rfl) (by kernel_rfl) (by kernel_rfl) (by kernel_rfl) ⟨Try.prog.types.size - 1, by kernel_rfl⟩ (wf_i64 ha.1) (wf_i64 ha.2), fun a b => agg2_inj⟩
def kT : KC Try.prog 3 Int := kI Try.prog 3 Try.underlying3
def seenM (l : List Int) : List (Int × Bool) := l.map fun a => (a, true)
theorem seenM_get {l : List Int} {a : Int} (h : a ∈ l) : mget (seenM l) a = some true := by
 cases hm : mget (seenM l) a with
 | none =>
  have := (mget_iff _ _).1 hm (a, true) (List.mem_map.2 ⟨a, h, rfl⟩)
  exact absurd rfl this
 | some v =>
  have : ∀ (l : List Int), mget (seenM l) a = some v → v = true := fun l => by
   induction l with
   | nil => intro h; cases h
   | cons x l ih =>
    intro h
    unfold seenM at h
    rw [List.map_cons, mget] at h
    split at h
    ·injection h with h; exact h.symm
    ·exact ih h
  rw [this l hm]
theorem seenM_none {l : List Int} {a : Int} (h : a ∉ l) : mget (seenM l) a = none := (mget_iff _ _).2 fun p hp e => by
 obtain ⟨x, hx, rfl⟩ := List.mem_map.1 hp
 exact h (by rw [← e]; exact hx)
theorem seenM_put {l : List Int} {a : Int} (h : a ∉ l) : mput (seenM l) a true = seenM (l ++ [a]) := by
 rw [(m_none (seenM l) a (fun p hp e => by obtain ⟨x, hx, rfl⟩ := List.mem_map.1 hp; exact h (by rw [← e]; exact hx))).2.1 true]
 simp [seenM]
theorem Ents.off {A B : List Ent} {w W : World} (h : Ents [grp A, grp B] w) (hO : Only (ids B) w W) : Ents A W := by
 have h1 := (Heap.start h).ents
 have hnd := h.2
 rw [ids_cons, ids_cons] at hnd
 obtain ⟨_, _, dis⟩ := List.nodup_append.1 hnd
 have hA : Ents A w := h.1 (grp A) (by simp)
 refine ⟨fun E hE => E.loc w W (fun i hi => ?_) (hA.1 E hE), hA.2⟩
 have hm : i ∈ (grp A).ids := mem_ids.2 ⟨E, hE, hi⟩
 refine hO.block i (E.lt w (hA.1 E hE) i hi) fun hf => ?_
 exact dis i hm i (List.mem_append_left _ hf) rfl
theorem Ents.snd {A B : List Ent} {w : World} (h : Ents [grp A, grp B] w) : Ents B w := h.1 (grp B) (by simp)
def trE (g : Geo) (n : Nat) (A : Option Addr) (k c p bs bb : Nat) (OA : Option Addr) (oc : Nat) (s : Tr.S) : List Ent :=
 [blk p [ptr g.p, .int .i64 n, .slice A k c, .map (some bs), .slice OA s.op.length oc, .map (some bb)] 110, mp kT Value.bool bs (seenM s.seen), ownN 1 (.slice OA s.op.length oc) s.op.length (s.op.map (Value.int .i64)) 3, mp kE (Value.int .i64) bb s.bad]
section
variable {g : Geo} {d : Nv.D} {n k c p bs bb oc : Nat} {A OA : Option Addr} {hs : List Ob.H3} {s : Tr.S} {w : World}
theorem trReach (hE : Ents [grp (devL g d), grp (trE g n A k c p bs bb OA oc s)] w) (hw : Ob.W64 d.cache) (hl : d.cache.length ≤ 1000000000) (hS : HSees w (ids (trE g n A k c p bs bb OA oc s)) A hs) (hk : hs.length = k) (hk2 : k ≤ 1000000) (hW : hsW hs) (hn : n ≤ 1000000) (ho : s.op.length ≤ 1000000) (e1 e2 a : Int) (he1 : i64ok e1) (he2 : i64ok e2) (ha : i64ok a) :
  Calls Try.prog 61 [ptr p, .agg [.int .i64 e1, .int .i64 e2].toArray, .int .i64 a].toArray w fun e w' => e = .returned (.int .i64 (Tr.code (Ob.pl n d.cache hs) s a)) ∧ ∃ OA' oc', Heap w (ids (trE g n A k c p bs bb OA oc s)) (trE g n A k c p bs bb OA' oc' (Tr.reach (Ob.pl n d.cache hs) s (e1, e2) a)) w' := by
 have hDev := fun {W : World} (h : Only (ids (trE g n A k c p bs bb OA oc s)) w W) => hE.off h
 have hS2 := fun {W : World} (h : Only (ids (trE g n A k c p bs bb OA oc s)) w W) => (hS.later h (fun _ h => h)).mono (G := []) (by simp)
 have H := Heap.start hE.snd
 generalize hI : ids (trE g n A k c p bs bb OA oc s) = I at *
 have gda : kT.Gd a := ha
 unfold Tr.code Tr.reach
 by_cases h0 : a = 0
 ·rw [if_pos (.inl h0), if_pos (.inl h0)]
  unfold trE at H
  refine k_in (N := 59) Try.func61 rfl rfl rfl ?_
  refine k_sg ?_
  refine s_box H rfl rfl ?_
  intro p4 _ H'; clear H; have H := H'; clear H'
  refine s_run rfl rfl (rai rfl) ?_
  refine k_nc ?_
  refine k_seq ?_
  refine k_sg ?_
  refine s_run rfl rfl (rmi rfl) ?_
  refine s_run rfl rfl (r_eqlT rfl rfl (by omega)) ?_
  refine s_run rfl rfl (rmb rfl) ?_
  refine s_off rfl (g_off 11 (by kernel_rfl) rfl rfl) ?_
  refine s_off rfl (g_off 11 (by kernel_rfl) rfl rfl) ?_
  refine s_off rfl (g_off 11 (by kernel_rfl) rfl rfl) ?_
  refine s_off rfl (g_off 11 (by kernel_rfl) rfl rfl) ?_
  refine s_off rfl (g_off 11 (by kernel_rfl) rfl rfl) ?_
  refine s_off rfl (g_off 11 (by kernel_rfl) rfl rfl) ?_
  refine s_run rfl rfl (r_pkT (v := .bool _) rfl rfl) ?_
  refine k_nc ?_
  refine k_t rfl ?_
  refine k_sg ?_
  refine s_run rfl rfl (rai rfl) ?_
  refine k_nc ?_
  refine k_ret ?_
  refine c_ret ?_
  refine fin1r (v := .int _ _) rfl rfl ?_
  exact ⟨rfl, OA, oc, H.drop⟩
 ·by_cases hm : a ∈ s.seen
  ·rw [if_pos (.inr hm), if_pos (.inr hm)]
   have hg := seenM_get hm
   unfold trE at H
   refine k_in (N := 59) Try.func61 rfl rfl rfl ?_
   refine k_sg ?_
   refine s_box H rfl rfl ?_
   intro p4 _ H'; clear H; have H := H'; clear H'
   refine s_run rfl rfl (rai rfl) ?_
   refine k_nc ?_
   refine k_seq ?_
   refine k_sg ?_
   refine s_run rfl rfl (rmi rfl) ?_
   refine s_run rfl rfl (r_eqlF rfl rfl (by omega)) ?_
   refine s_run rfl rfl (rmb rfl) ?_
   refine s_run rfl (g_on 11 (by kernel_rfl) rfl) (rmp rfl) ?_
   refine s_run rfl (g_on 11 (by kernel_rfl) rfl) (r_nc rfl) ?_
   refine s_run rfl (g_on 11 (by kernel_rfl) rfl) (r_fa0 rfl fo110_3) ?_
   refine s_run rfl (g_on 11 (by kernel_rfl) rfl) (r_lo H 1 rfl rfl rfl ag107) ?_
   refine s_run rfl (g_on 11 (by kernel_rfl) rfl) (rmi rfl) ?_
   refine s_run rfl (g_on 11 (by kernel_rfl) rfl) (r_lkS H 2 rfl rfl rfl (gda) (hg) Try.underlying107 (zv_of inf4) rfl) ?_
   refine s_run rfl rfl (r_pkF (v := .bool _) rfl rfl) ?_
   refine k_nc ?_
   refine k_t rfl ?_
   refine k_sg ?_
   refine s_run rfl rfl (rai rfl) ?_
   refine k_nc ?_
   refine k_ret ?_
   refine c_ret ?_
   refine fin1r (v := .int _ _) rfl rfl ?_
   exact ⟨rfl, OA, oc, H.drop⟩
  ·have hno : ¬ (a = 0 ∨ a ∈ s.seen) := fun h => h.elim h0 hm
   rw [if_neg hno, if_neg hno]
   have hg := seenM_none hm
   have hP := fun {W : World} (h : Only I w W) => obPlaced (hDev h) hw hl A k c hs (hS2 h) hk hk2 hW n hn a ha
   generalize Ob.pl n d.cache hs a = b at *
   unfold trE at H
   refine k_in (N := 59) Try.func61 rfl rfl rfl ?_
   refine k_sg ?_
   refine s_box H rfl rfl ?_
   intro p4 _ H'; clear H; have H := H'; clear H'
   refine s_run rfl rfl (rai rfl) ?_
   refine k_nc ?_
   refine k_seq ?_
   refine k_sg ?_
   refine s_run rfl rfl (rmi rfl) ?_
   refine s_run rfl rfl (r_eqlF rfl rfl (by omega)) ?_
   refine s_run rfl rfl (rmb rfl) ?_
   refine s_run rfl (g_on 11 (by kernel_rfl) rfl) (rmp rfl) ?_
   refine s_run rfl (g_on 11 (by kernel_rfl) rfl) (r_nc rfl) ?_
   refine s_run rfl (g_on 11 (by kernel_rfl) rfl) (r_fa0 rfl fo110_3) ?_
   refine s_run rfl (g_on 11 (by kernel_rfl) rfl) (r_lo H 1 rfl rfl rfl ag107) ?_
   refine s_run rfl (g_on 11 (by kernel_rfl) rfl) (rmi rfl) ?_
   refine s_run rfl (g_on 11 (by kernel_rfl) rfl) (r_lkN H 2 rfl rfl rfl (gda) (hg) Try.underlying107 (zv_of inf4)) ?_
   refine s_run rfl rfl (r_pkF (v := .bool _) rfl rfl) ?_
   refine k_nc ?_
   refine k_f rfl ?_
   refine k_skip ?_
   refine c_norm ?_
   refine k_seq ?_
   refine k_seq ?_
   refine k_cut (fun f W => f 0 = ptr p ∧ f 2 = .int .i64 a ∧ f 4 = ptr p4 ∧ f 6 = .int .i64 0 ∧ f 8 = .bool b ∧ Heap w I [blk p4 [.int .i64 e1, .int .i64 e2] 113, blk p [ptr g.p, .int .i64 n, .slice A k c, .map (some bs), .slice OA s.op.length oc, .map (some bb)] 110, mp kT Value.bool bs (seenM s.seen), ownN 1 (.slice OA s.op.length oc) s.op.length (s.op.map (Value.int .i64)) 3, mp kE (Value.int .i64) bb s.bad] W) ?_ ?_
   ·refine k_trS (A := [_]) mixed H [1] rfl ?_; have H' := H.drew; clear H; have H := H'; clear H'
    refine tqn 0 rfl rfl rfl (fun _ hS => r_mv (v := .pointer _) rfl) (H.subl [1] rfl rfl) ?_
    refine tqn 1 rfl rfl rfl (fun _ hS => r_nc rfl) (H.subl [1] rfl rfl) ?_
    refine tqn 2 rfl rfl rfl (fun _ hS => r_fa0 rfl fo110_0) (H.subl [1] rfl rfl) ?_
    refine tqn 3 rfl rfl rfl (fun _ hS => r_lo hS 0 rfl rfl rfl ag46) (H.subl [1] rfl rfl) ?_
    refine tqn 4 rfl rfl rfl (fun _ hS => r_mv (v := .pointer _) rfl) (H.subl [1] rfl rfl) ?_
    refine tqn 5 rfl rfl rfl (fun _ hS => r_nc rfl) (H.subl [1] rfl rfl) ?_
    refine tqn 6 rfl rfl rfl (fun _ hS => r_fa0 rfl fo110_1) (H.subl [1] rfl rfl) ?_
    refine tqn 7 rfl rfl rfl (fun _ hS => r_lp (vs := [.int .i64 n]) hS 0 rfl rfl rfl rfl ag48 sz48) (H.subl [1] rfl rfl) ?_
    refine tqn 8 rfl rfl rfl (fun _ hS => r_mv (v := .pointer _) rfl) (H.subl [1] rfl rfl) ?_
    refine tqn 9 rfl rfl rfl (fun _ hS => r_nc rfl) (H.subl [1] rfl rfl) ?_
    refine tqn 10 rfl rfl rfl (fun _ hS => r_fa0 rfl fo110_2) (H.subl [1] rfl rfl) ?_
    refine tqn 11 rfl rfl rfl (fun _ hS => r_lo hS 0 rfl rfl rfl ag49) (H.subl [1] rfl rfl) ?_
    refine tqn 12 rfl rfl rfl (fun _ hS => r_mv (v := .int _ _) rfl) (H.subl [1] rfl rfl) ?_
    refine t_up2 13 17 (by kernel_rfl) ?_ ?_
    ·refine up_mk rfl ?_
     refine s_call rfl (hP H.only) (ca90 rfl) ?_
     rintro e W1 ⟨⟨P0, D0, rfl, _⟩, H'⟩
     refine ⟨_, rfl, ?_⟩
     have H := H.same H'; clear H'
     refine k_nil ?_
     refine t_on (H.subl [1] rfl rfl) ?_
     refine tqn 14 rfl rfl rfl (fun _ hS => r_mv (v := .tuple _) rfl) (H.subl [1] rfl rfl) ?_
     refine tqn 15 rfl rfl rfl (fun _ hS => r_ext (v := .agg _) rfl rfl) (H.subl [1] rfl rfl) ?_
     refine tqn 16 rfl rfl rfl (fun _ hS => r_ext (v := .bool _) rfl rfl) (H.subl [1] rfl rfl) ?_
     refine t_up1 17 (by kernel_rfl) ?_
     refine up_mk rfl ?_
     refine s_al H rfl inf149 ?_
     intro p7 _ H'; clear H; have H := H'; clear H'
     refine k_nil ?_
     refine t_on (H.subl [2] rfl rfl) ?_
     refine t_up1 18 (by kernel_rfl) ?_
     refine up_mk rfl ?_
     refine s_sw H 0 rfl rfl rfl rfl rfl rfl rfl sz149 ?_
     clear H; intro _ H; simp only [jA, jB, jC, jD, jE, jF, jG, jH, jI, jJ, jK, Nat.reduceAdd] at H
     refine k_nil ?_
     refine t_on (H.subl [2] rfl rfl) ?_
     refine tqn 19 rfl rfl rfl (fun _ hS => r_as (v := .bool _) rfl) (H.subl [2] rfl rfl) ?_
     refine t_done (by kernel_rfl) ?_
     refine k_met ?_
     exact ⟨rfl, rfl, rfl, rfl, rfl, H.drop⟩
    ·refine up_mk rfl ?_
     refine s_al H rfl inf149 ?_
     intro p7 _ H'; clear H; have H := H'; clear H'
     refine k_nil ?_
     refine t_on (H.subl [2] rfl rfl) ?_
     refine t_up1 13 (by kernel_rfl) ?_
     refine up_mk rfl ?_
     refine s_call rfl (hP H.only) (ca90 rfl) ?_
     rintro e W1 ⟨⟨P0, D0, rfl, _⟩, H'⟩
     refine ⟨_, rfl, ?_⟩
     have H := H.same H'; clear H'
     refine k_nil ?_
     refine t_on (H.subl [2] rfl rfl) ?_
     refine tqn 14 rfl rfl rfl (fun _ hS => r_mv (v := .tuple _) rfl) (H.subl [2] rfl rfl) ?_
     refine tqn 15 rfl rfl rfl (fun _ hS => r_ext (v := .agg _) rfl rfl) (H.subl [2] rfl rfl) ?_
     refine tqn 16 rfl rfl rfl (fun _ hS => r_ext (v := .bool _) rfl rfl) (H.subl [2] rfl rfl) ?_
     refine t_up1 18 (by kernel_rfl) ?_
     refine up_mk rfl ?_
     refine s_sw H 0 rfl rfl rfl rfl rfl rfl rfl sz149 ?_
     clear H; intro _ H; simp only [jA, jB, jC, jD, jE, jF, jG, jH, jI, jJ, jK, Nat.reduceAdd] at H
     refine k_nil ?_
     refine t_on (H.subl [2] rfl rfl) ?_
     refine tqn 19 rfl rfl rfl (fun _ hS => r_as (v := .bool _) rfl) (H.subl [2] rfl rfl) ?_
     refine t_done (by kernel_rfl) ?_
     refine k_met ?_
     exact ⟨rfl, rfl, rfl, rfl, rfl, H.drop⟩
   clear H
   rintro f W ⟨f0, f2, f4, f6, f8, H⟩
   obtain ⟨f, rfl⟩ := live5 f0 f2 f4 f6 f8
   clear f0 f2 f4 f6 f8
   cases b with
   | true =>
    rw [if_pos rfl, if_pos rfl]
    refine c_norm ?_
    refine k_sg ?_
    refine s_run rfl rfl (rmb rfl) ?_
    refine s_run rfl rfl (r_notT rfl) ?_
    refine k_nc ?_
    refine k_f rfl ?_
    refine k_skip ?_
    refine c_norm ?_
    refine k_sg ?_
    refine s_run rfl rfl (rmp rfl) ?_
    refine s_run rfl rfl (r_nc rfl) ?_
    refine s_run rfl rfl (r_fa0 rfl fo110_3) ?_
    refine s_run rfl rfl (r_lo H 1 rfl rfl rfl ag107) ?_
    refine s_run rfl rfl (rmi rfl) ?_
    refine s_mu (q := true) H 2 rfl rfl rfl rfl rfl (gda) Try.underlying107 ?_
    clear H; intro _ H; simp only [jA, jB, jC, jD, jE, jF, jG, jH, jI, jJ, jK, Nat.reduceAdd] at H
    refine k_nc ?_
    refine k_sg ?_
    refine s_run rfl rfl (rmp rfl) ?_
    refine s_run rfl rfl (rmp rfl) ?_
    refine s_run rfl rfl (r_nc rfl) ?_
    refine s_run rfl rfl (r_fa0 rfl fo110_4) ?_
    refine s_run rfl rfl (r_lo H 1 rfl rfl rfl ag25) ?_
    refine s_run rfl rfl (rmi rfl) ?_
    refine s_app1 (enc := (Value.int .i64)) H 3 rfl rfl rfl rfl rfl rfl rfl (by omega) Try.underlying25 inf3 rfl ?_
    intro _ An cn _ H'; simp only [List.set_cons_zero, List.set_cons_succ, List.take_succ_cons, List.take_zero, List.drop_succ_cons, List.drop_zero, List.cons_append, List.nil_append, List.append_nil, List.length_cons, List.length_nil, Nat.reduceAdd] at H'; clear H; have H := H'; clear H'
    refine s_run rfl rfl (r_nc rfl) ?_
    refine s_run rfl rfl (r_fa0 rfl fo110_4) ?_
    refine s_st (u := .slice _ _ _) H 1 rfl rfl rfl rfl rfl rfl sz25 ?_
    clear H; intro _ H; simp only [jA, jB, jC, jD, jE, jF, jG, jH, jI, jJ, jK, Nat.reduceAdd] at H
    refine k_nc ?_
    refine k_sg ?_
    refine s_run rfl rfl (rai rfl) ?_
    refine k_nc ?_
    refine k_ret ?_
    refine fin1r (v := .int _ _) rfl rfl ?_
    have hle : (s.op ++ [a]).length = s.op.length + 1 := by simp
    rw [seenM_put hm, ← hle] at H
    exact ⟨rfl, _, _, H.drop⟩
   | false =>
    rw [if_neg (by simp), if_neg (by simp)]
    refine c_norm ?_
    refine k_sg ?_
    refine s_run rfl rfl (rmb rfl) ?_
    refine s_run rfl rfl (r_notF rfl) ?_
    refine k_nc ?_
    refine k_t rfl ?_
    refine k_seq ?_
    refine k_qt 6 mixed (by kernel_rfl) H rfl rfl ?_
    refine q_run rfl rfl (fun _ H => r_mv (v := .pointer _) rfl) ?_
    refine q_run rfl rfl (fun _ H => r_nc rfl) ?_
    refine q_run rfl rfl (fun _ H => r_fa0 rfl fo110_5) ?_
    refine q_run rfl rfl (fun _ H => r_lo H 1 rfl rfl rfl ag108) ?_
    refine q_run rfl rfl (fun _ H => r_la H 0 rfl rfl rfl ag113 sz113) ?_
    refine q_run rfl rfl (fun _ H => r_mv (v := .int _ _) rfl) ?_
    refine q_nil ?_
    intro _ H'; clear H; have H := H'; clear H'
    refine s_mu H 4 rfl rfl rfl rfl rfl ((show kE.Gd (e1, e2) from ⟨he1, he2⟩)) Try.underlying108 ?_
    clear H; intro _ H; simp only [jA, jB, jC, jD, jE, jF, jG, jH, jI, jJ, jK, Nat.reduceAdd] at H
    refine k_nc ?_
    refine k_sg ?_
    refine s_run rfl rfl (rai rfl) ?_
    refine k_nc ?_
    refine k_ret ?_
    refine c_ret ?_
    refine fin1r (v := .int _ _) rfl rfl ?_
    exact ⟨rfl, OA, oc, H.drop⟩
end
end Go.Proofs.Ytlakbclnilakbaa
end

section
namespace Go.Proofs.Ytlakbclnilakbaa
open Go.Sort Go.RowKit
set_option maxRecDepth 100000
def lays189_ren : Go.Shelf.Ren := ⟨fun | 189 => 55 | 125 => 84 | 257 => 83 | 128 => 109 | 129 => 110 | 294 => 100 | 295 => 101 | 296 => 102 | 297 => 103 | 298 => 104 | 299 => 105 | 216 => 106 | 300 => 107 | 301 => 108 | 328 => 128 | 329 => 129 | 330 => 130 | 331 => 131 | 332 => 132 | 215 => 133 | 343 => 150 | n => n, fun | 28 => 25 | 3 => 3 | 46 => 144 | 0 => 0 | 51 => 147 | 53 => 78 | 4 => 4 | 183 => 164 | 182 => 163 | 131 => 126 | 5 => 5 | 9 => 9 | 218 => 185 | 222 => 189 | 228 => 199 | 229 => 200 | n => n, fun | n => n⟩
theorem lays189 : Go.Proofs.Lays.n189 Try.prog lays189_ren := {
  mixed := by kernel_rfl
  f125 := Try.func84.trans (congrArg some (by kernel_rfl))
  f128 := Try.func109.trans (congrArg some (by kernel_rfl))
  f129 := Try.func110.trans (congrArg some (by kernel_rfl))
  f189 := Try.func55.trans (congrArg some (by kernel_rfl))
  f215 := Try.func133.trans (congrArg some (by kernel_rfl))
  f216 := Try.func106.trans (congrArg some (by kernel_rfl))
  f257 := Try.func83.trans (congrArg some (by kernel_rfl))
  f294 := Try.func100.trans (congrArg some (by kernel_rfl))
  f295 := Try.func101.trans (congrArg some (by kernel_rfl))
  f296 := Try.func102.trans (congrArg some (by kernel_rfl))
  f297 := Try.func103.trans (congrArg some (by kernel_rfl))
  f298 := Try.func104.trans (congrArg some (by kernel_rfl))
  f299 := Try.func105.trans (congrArg some (by kernel_rfl))
  f300 := Try.func107.trans (congrArg some (by kernel_rfl))
  f301 := Try.func108.trans (congrArg some (by kernel_rfl))
  f328 := Try.func128.trans (congrArg some (by kernel_rfl))
  f329 := Try.func129.trans (congrArg some (by kernel_rfl))
  f330 := Try.func130.trans (congrArg some (by kernel_rfl))
  f331 := Try.func131.trans (congrArg some (by kernel_rfl))
  f332 := Try.func132.trans (congrArg some (by kernel_rfl))
  f343 := Try.func150.trans (congrArg some (by kernel_rfl))
  t0 := Try.underlying0
  a0 := Try.isAgg0
  z0 := Try.sizeOf0
  v0 := Try.zeroValue0
  t3 := Try.underlying3
  a3 := Try.isAgg3
  z3 := Try.sizeOf3
  v3 := Try.zeroValue3
  t4 := Try.underlying4
  a4 := Try.isAgg4
  z4 := Try.sizeOf4
  v4 := Try.zeroValue4
  t5 := Try.underlying5
  a5 := Try.isAgg5
  z5 := Try.sizeOf5
  v5 := Try.zeroValue5
  t9 := Try.underlying9
  a9 := Try.isAgg9
  z9 := Try.sizeOf9
  v9 := Try.zeroValue9
  t28 := Try.underlying25
  a28 := Try.isAgg25
  z28 := Try.sizeOf25
  v28 := Try.zeroValue25
  t46 := Try.underlying144
  a46 := Try.isAgg144
  z46 := Try.sizeOf144
  v46 := Try.zeroValue144
  t51 := Try.underlying147
  a51 := Try.isAgg147
  z51 := Try.sizeOf147
  v51 := Try.zeroValue147
  t53 := Try.underlying78
  a53 := Try.isAgg78
  z53 := Try.sizeOf78
  v53 := Try.zeroValue78
  t131 := Try.underlying126
  a131 := Try.isAgg126
  z131 := Try.sizeOf126
  v131 := Try.zeroValue126
  t182 := Try.underlying163
  a182 := Try.isAgg163
  z182 := Try.sizeOf163
  v182 := Try.zeroValue163
  t183 := Try.underlying164
  a183 := Try.isAgg164
  z183 := Try.sizeOf164
  v183 := Try.zeroValue164
  t218 := Try.underlying185
  a218 := Try.isAgg185
  z218 := Try.sizeOf185
  v218 := Try.zeroValue185
  t222 := Try.underlying189
  a222 := Try.isAgg189
  z222 := Try.sizeOf189
  v222 := Try.zeroValue189
  t228 := Try.underlying199
  a228 := Try.isAgg199
  z228 := Try.sizeOf199
  v228 := Try.zeroValue199
  t229 := Try.underlying200
  a229 := Try.isAgg200
  z229 := Try.sizeOf200
  v229 := Try.zeroValue200 }
theorem gSort0 (blk off cap : Nat) (zs : List Int) (w : World) (hH : Holds (Value.int .i64) w blk off zs.toArray) (hblk : blk < w.heap.size) (hsz : zs.length < 4611686018427387904) :
  Calls Try.prog 55 #[.slice (some ⟨blk, off, none⟩) zs.length cap] w fun e w' =>
   e = .returned (.tuple #[]) ∧ ∃ n os, w' = grow (putRow (Value.int .i64) (Sort.ahead w n) blk off (zs.mergeSort fun x y => decide (x ≤ y)).toArray) os := Any.slices_Sort_int lays189 blk off cap zs w hH hblk hsz
def srt (l : List Int) : List Int := l.mergeSort fun x y => decide (x ≤ y)
theorem srt_perm (l : List Int) : (srt l).Perm l := List.mergeSort_perm _ _
theorem srt_len (l : List Int) : (srt l).length = l.length := (srt_perm l).length_eq
/-- a row of the call's own is sorted -/
theorem sorted_eq : ∀ {a b : List Int}, a.Perm b → a.Pairwise (· ≤ ·) → b.Pairwise (· ≤ ·) → a = b
 | [], b, h, _, _ => (List.nil_perm.1 h).symm
 | x :: a, [], h, _, _ => by have := h.length_eq; simp at this
 | x :: a, y :: b, h, ha, hb => by
  obtain ⟨a1, a2⟩ := List.pairwise_cons.1 ha
  obtain ⟨b1, b2⟩ := List.pairwise_cons.1 hb
  have e : x = y := by
   have h1 : x ∈ y :: b := h.mem_iff.1 (by simp)
   have h2 : y ∈ x :: a := h.mem_iff.2 (by simp)
   rcases List.mem_cons.1 h1 with h1 | h1
   ·exact h1
   ·rcases List.mem_cons.1 h2 with h2 | h2
    ·exact h2.symm
    ·have := a1 y h2; have := b1 x h1; omega
  subst e
  rw [sorted_eq (List.Perm.cons_inv h) a2 b2]
theorem srt_sorted (l : List Int) : (srt l).Pairwise (· ≤ ·) := by
 have h := List.pairwise_mergeSort (le := fun x y : Int => decide (x ≤ y)) (fun a b c h1 h2 => by simp at *; omega) (fun a b => by simp; omega) l
 exact h.imp fun h => by simpa using h
theorem srt_eq {a b : List Int} (h : a.Perm b) : srt a = srt b := sorted_eq ((srt_perm a).trans (h.trans (srt_perm b).symm)) (srt_sorted a) (srt_sorted b)
theorem gSort (A : Option Addr) (n c : Nat) (zs : List Int) (T : TypeId) (w : World) (hE : Ents [ownN 1 (.slice A n c) n (zs.map (Value.int .i64)) T] w) (hn : n ≤ 1000000) :
  Calls Try.prog 55 [.slice A n c].toArray w fun e w' => e = .returned (.tuple #[]) ∧ Heap w (ids [ownN 1 (.slice A n c) n (zs.map (Value.int .i64)) T]) [ownN 1 (.slice A n c) n ((srt zs).map (Value.int .i64)) T] w' := by
 have H := Heap.start hE
 have ho := H.own_get 0 rfl
 have hl : zs.length = n := by have := ho.1; simpa using this
 rcases ho.2 with ⟨hv, h0⟩ | ⟨g, cap, cur, hv, _, hg, hnc, hcm, hcs, htk⟩
 ·injection hv with h1 h2 h3
  subst h1; subst h2; subst h3
  have hz : zs = [] := List.eq_nil_of_length_eq_zero hl
  subst hz
  refine (Any.slices_Sort_int_none lays189 none 0 w).mono ?_
  rintro e w' ⟨rfl, rfl⟩
  have e0 : srt [] = [] := by simp [srt]
  rw [e0]
  exact ⟨rfl, H⟩
 ·injection hv with h1 h2 h3
  subst h1; subst h3
  subst hl
  have htk' : cur.toList.take zs.length = zs.map (Value.int .i64) := by rw [Nat.mul_one] at htk; exact htk
  refine (gSort0 g 0 c zs w (holds_of_blockI hg htk') (arr_lt hg) (by omega)).mono ?_
  rintro e w' ⟨rfl, m, os, rfl⟩
  have hs := ownsRow_sortedI (w := w) (base := 0) (n := m) (e := T) (os := os) (ss := zs) (ts := srt zs) (srt_len zs) (Nat.zero_le _) hg hnc hcm hcs
  have hgr : w.grownBy (grow (putRow (Value.int .i64) (Sort.ahead w m) g 0 (srt zs).toArray) os) (some g) := grownBy_sortedI _
  refine ⟨rfl, H.at 0 rfl (F' := [g]) ⟨?_, by simp [ids, ownN, Value.ownBlock], by simp [ids, ownN, Value.ownBlock], ⟨hgr.os, hgr.tape, hgr.output, hgr.size, fun k hk hne => hgr.block k hk (fun e => hne (by injection e with e; rw [e]; simp))⟩⟩ (by simp [ownN, Value.ownBlock])⟩
  intro E hE
  rw [List.mem_singleton.1 hE]
  exact hs
end Go.Proofs.Ytlakbclnilakbaa
end

section
namespace Go.Proofs.Ytlakbclnilakbaa
open Go.RowKit
set_option maxRecDepth 100000
set_option maxHeartbeats 4000000
theorem Heap.oneE {w0 W : World} {F : List Nat} {L : List Ent} {E : Ent} (H : Heap w0 F L W) (k : Nat) (hk : L[k]? = some E) : Ents [E] W := Heap.part (A := [E]) (H.pick k hk)
theorem Ents.on {A B L : List Ent} {w W : World} (h : Ents [grp A, grp B] w) (H : Heap w (ids B) L W) : Ents (grp A :: L) W := by
 have hA := h.off H.only
 have hnd := h.2
 rw [ids_cons, ids_cons] at hnd
 obtain ⟨hn1, _, dis⟩ := List.nodup_append.1 hnd
 refine ⟨fun E hE => ?_, ?_⟩
 ·rcases List.mem_cons.1 hE with rfl | h1
  ·exact hA
  ·exact H.ok E h1
 ·rw [ids_cons, List.nodup_append]
  refine ⟨hn1, H.nd, fun i hi j hj e => ?_⟩
  subst e
  rcases H.own i hj with h1 | h1
  ·exact dis i hi i (List.mem_append_left _ h1) rfl
  ·have := (grp A).lt w (h.1 (grp A) (by simp)) i hi
   omega
theorem Ents.two {A B : Ent} {L : List Ent} {W : World} (h : Ents (A :: L) W) (k : Nat) (hk : L[k]? = some B) : Ents [A, B] W := by
 have h1 := Heap.start h
 have h2 := (h1.pick (k + 1) (by simpa using hk)).pick 1 rfl
 exact Heap.part (A := [A, B]) h2
theorem HSees.on {w W : World} {I K : List Nat} {L : List Ent} {A : Option Addr} {hs : List Ob.H3} (h : HSees w K A hs) (H : Heap w I L W) (hIK : ∀ i ∈ I, i ∈ K) : HSees W (K ++ ids L) A hs := fun h0 => by
 obtain ⟨b, o, e, hb, hr⟩ := h h0
 have hlt : b < w.heap.size := by
  obtain ⟨x, hx⟩ : ∃ x, hs[0]? = some x := ⟨_, List.getElem?_eq_getElem (by omega)⟩
  exact cell_lt (hr 0 x hx 0 _ rfl)
 refine ⟨b, o, e, fun hm => ?_, fun i x hi => (hr i x hi).later H.only (fun hm => hb (hIK b hm))⟩
 rcases List.mem_append.1 hm with h1 | h1
 ·exact hb h1
 ·rcases H.own b h1 with h2 | h2
  ·exact hb (hIK b h2)
  ·omega
theorem trLen {n : Nat} {c : List Int} {hs : List Ob.H3} {s : Tr.S} (h : Tr.Ok (Ob.pl n c hs) s) : s.op.length ≤ 512 * n ∧ s.seen.length ≤ 512 * n := by
 have hp : ∀ x ∈ s.seen, 0 ≤ x ∧ x < ((512 * n : Nat) : Int) := fun x hx => by
  have := Ob.pl_yes (h.pl x hx); omega
 exact ⟨Tr.nd_bound _ _ h.ondup (fun x hx => hp x (h.sub x hx)), Tr.nd_bound _ _ h.nd hp⟩
theorem trNew (g : Geo) (n : Nat) (A : Option Addr) (k c : Nat) (w : World) :
  Calls Try.prog 21 [ptr g.p, .agg [.int .i64 n].toArray, .slice A k c].toArray w fun e w' => ∃ p bs bb, e = .returned (ptr p) ∧ Heap w [] (trE g n A k c p bs bb none 0 Tr.s0) w' := by
 have H := Heap.nil w
 refine k_in (N := 14) Try.func21 rfl rfl rfl ?_
 refine k_sg ?_
 refine s_box H rfl rfl ?_
 intro p4 _ H'; clear H; have H := H'; clear H'
 refine s_run rfl rfl (rap rfl) ?_
 refine k_nc ?_
 refine k_sg ?_
 refine s_run rfl rfl (rmp rfl) ?_
 refine s_run rfl rfl (r_la H 0 rfl rfl rfl ag48 sz48) ?_
 refine s_run rfl rfl (rms rfl) ?_
 refine s_mm kT Value.bool H rfl ?_
 intro b1 _ H'; clear H; have H := H'; clear H'
 refine s_mm kE (Value.int .i64) H rfl ?_
 intro b2 _ H'; clear H; have H := H'; clear H'
 refine s_run rfl rfl (r_bd (bd110_0_1_2_3_5 _ _ _ _ _ _ _) rfl) ?_
 refine s_box H rfl rfl ?_
 intro p13 _ H'; clear H; have H := H'; clear H'
 refine s_run rfl rfl (rap rfl) ?_
 refine k_nc ?_
 refine k_ret ?_
 refine fin1r (v := .pointer _) rfl rfl ?_
 replace H := H.own_nil 1 3
 exact ⟨p13, b1, b2, rfl, Heap.subl H [1, 3, 0, 2] rfl rfl⟩
section
variable {g : Geo} {d : Nv.D} {n k c p bs bb oc : Nat} {A OA : Option Addr} {hs : List Ob.H3} {s : Tr.S} {w : World} {K : List Nat}
theorem trRoot (hE : Ents [grp (devL g d), grp (trE g n A k c p bs bb OA oc s)] w) (hw : Ob.W64 d.cache) (hl : d.cache.length ≤ 1000000000) (hS : HSees w (ids (trE g n A k c p bs bb OA oc s)) A hs) (hk : hs.length = k) (hk2 : k ≤ 1000000) (hW : hsW hs) (hn : n ≤ 1900) (hok : Tr.Ok (Ob.pl n d.cache hs) s) (a : Int) (ha : i64ok a) :
  Calls Try.prog 22 [ptr p, .int .i64 a].toArray w fun e w' => e = .returned (.int .i64 (Tr.code (Ob.pl n d.cache hs) s a)) ∧ ∃ OA' oc', Heap w (ids (trE g n A k c p bs bb OA oc s)) (trE g n A k c p bs bb OA' oc' (Tr.reach (Ob.pl n d.cache hs) s (-1, 0) a)) w' := by
 have hln := trLen hok
 have hR := trReach hE hw hl hS hk hk2 hW (by omega) (by omega) (-1) 0 a ⟨by omega, by omega⟩ ⟨by omega, by omega⟩ ha
 have H := grp_start hE.snd
 generalize hI : ids (trE g n A k c p bs bb OA oc s) = I at *
 refine k_in (N := 9) Try.func22 rfl rfl rfl ?_
 refine k_sg ?_
 refine s_run rfl rfl (rai rfl) ?_
 refine k_nc ?_
 refine k_sg ?_
 refine s_run rfl rfl (rmp rfl) ?_
 refine s_run rfl rfl (r_bd (bd113_0 _) rfl) ?_
 refine s_run rfl rfl (rmi rfl) ?_
 refine s_call rfl (hR) (ca61 rfl) ?_
 rintro e W1 ⟨rfl, OA', oc', H'⟩
 refine ⟨_, rfl, ?_⟩
 rw [← hI] at H'; have H := H.grp_at 0 rfl H'; clear H'; simp only [List.set_cons_zero] at H
 refine s_run rfl rfl (rai rfl) ?_
 refine k_nc ?_
 refine k_ret ?_
 refine fin1r (v := .int _ _) rfl rfl ?_
 exact ⟨rfl, OA', oc', grp_open H⟩
theorem trStep0 (hE : Ents (trE g n A k c p bs bb OA oc s) w) (h0 : s.op = []) :
  Calls Try.prog 26 [ptr p].toArray w fun e w' => e = .returned (.bool false) ∧ Only [] w w' := by
 have HR := Heap.start hE
 have H := Heap.nil w
 unfold trE at HR
 rw [h0, List.length_nil] at HR
 refine k_in (N := 63) Try.func26 rfl rfl rfl ?_
 refine k_sg ?_
 refine s_run rfl rfl (rab rfl) ?_
 refine k_nc ?_
 refine k_seq ?_
 refine k_sg ?_
 refine s_run rfl rfl (rmp rfl) ?_
 refine s_run rfl rfl (r_nc rfl) ?_
 refine s_run rfl rfl (r_fa0 rfl fo110_4) ?_
 refine s_run rfl rfl (r_lo (HR.same H.only) 0 rfl rfl rfl ag25) ?_
 refine s_run rfl rfl (r_len rfl Try.underlying25) ?_
 refine s_run rfl rfl (r_eqlT rfl rfl (by omega)) ?_
 refine k_nc ?_
 refine k_t rfl ?_
 refine k_sg ?_
 refine s_run rfl rfl (rab rfl) ?_
 refine k_nc ?_
 refine k_ret ?_
 refine c_ret ?_
 refine fin1r (v := .bool _) rfl rfl ?_
 exact ⟨rfl, H.only⟩
theorem trStep (hE : Ents [grp (devL g d), grp (trE g n A k c p bs bb OA oc s)] w) (hw : Ob.W64 d.cache) (hl : d.cache.length ≤ 1000000000) (hS : HSees w K A hs) (hIK : ∀ i ∈ ids (trE g n A k c p bs bb OA oc s), i ∈ K) (hk : hs.length = k) (hk2 : k ≤ 1000000) (hW : hsW hs) (hn : n ≤ 1900) (hok : Tr.Ok (Ob.pl n d.cache hs) s) (h0 : s.op ≠ []) :
  Calls Try.prog 26 [ptr p].toArray w fun e w' => e = .returned (.bool true) ∧ ∃ OA' oc', Heap w (ids (trE g n A k c p bs bb OA oc s)) (trE g n A k c p bs bb OA' oc' (Tr.step (Ob.pl n d.cache hs) (Ob.ptrs d.cache) s)) w' := by
 have hDv := fun {L : List Ent} {W : World} (H : Heap w (ids (trE g n A k c p bs bb OA oc s)) L W) => hE.on H
 have hS2 := fun {L : List Ent} {W : World} (H : Heap w (ids (trE g n A k c p bs bb OA oc s)) L W) => hS.on H hIK
 have hDO := fun {W : World} (h : Only (ids (trE g n A k c p bs bb OA oc s)) w W) => hE.off h
 have H := Heap.start hE.snd
 have hln := trLen hok
 generalize hI : ids (trE g n A k c p bs bb OA oc s) = I at *
 have hpos := List.length_pos_iff.2 h0
 obtain ⟨y, hy⟩ : ∃ y, s.op[s.op.length - 1]? = some y := ⟨_, List.getElem?_eq_getElem (by omega)⟩
 have hyt : Tr.top s = y := by unfold Tr.top; rw [List.getD_eq_getElem?_getD, hy]; rfl
 have hyp := Ob.pl_yes (hok.pl y (hok.sub y (List.mem_of_getElem? hy)))
 have hPt := fun {W : World} (h : Only I w W) => obPtrs (hDO h) hw hl y hyp.2.2
 have hpb := Ob.ptrs_bd hw y
 unfold Tr.step
 rw [hyt]
 generalize hPL : Ob.ptrs d.cache y = l at *
 have hll : l.length ≤ 63 := by
  rw [← hPL]; unfold Ob.ptrs; rw [Ob.ptrsTo_len]; have := Ob.hp_bd hw y; omega
 unfold trE at H
 cases OA with
 | none =>
  exfalso
  obtain ⟨q, hq⟩ := H.own_some 2 rfl (by omega)
  cases hq
 | some oa =>
 obtain ⟨q, hq⟩ := H.own_some 2 rfl (by omega)
 injection hq with hq
 subst hq
 have hcap := own_cap H 2 rfl
 refine k_in (N := 63) Try.func26 rfl rfl rfl ?_
 refine k_sg ?_
 refine s_run rfl rfl (rab rfl) ?_
 refine k_nc ?_
 refine k_seq ?_
 refine k_sg ?_
 refine s_run rfl rfl (rmp rfl) ?_
 refine s_run rfl rfl (r_nc rfl) ?_
 refine s_run rfl rfl (r_fa0 rfl fo110_4) ?_
 refine s_run rfl rfl (r_lo H 0 rfl rfl rfl ag25) ?_
 refine s_run rfl rfl (r_len rfl Try.underlying25) ?_
 refine s_run rfl rfl (r_eqlF rfl rfl (by omega)) ?_
 refine k_nc ?_
 refine k_f rfl ?_
 refine k_skip ?_
 refine c_norm ?_
 refine k_seq ?_
 refine k_q mixed (by kernel_rfl) H ?_
 refine q_run rfl rfl (fun _ H => r_mv (v := .pointer _) rfl) ?_
 refine q_run rfl rfl (fun _ H => r_nc rfl) ?_
 refine q_run rfl rfl (fun _ H => r_fa0 rfl fo110_4) ?_
 refine q_run rfl rfl (fun _ H => r_lo H 0 rfl rfl rfl ag25) ?_
 refine q_run rfl rfl (fun _ H => r_mv (v := .pointer _) rfl) ?_
 refine q_run rfl rfl (fun _ H => r_nc rfl) ?_
 refine q_run rfl rfl (fun _ H => r_fa0 rfl fo110_4) ?_
 refine q_run rfl rfl (fun _ H => r_lo H 0 rfl rfl rfl ag25) ?_
 refine q_run rfl rfl (fun _ H => r_len rfl Try.underlying25) ?_
 refine q_run rfl rfl (fun _ H => r_sub rfl rfl (wI (by omega))) ?_
 refine q_run rfl rfl (fun _ H => r_ix1 (i := (s.op.length - 1)) rfl rfl (by omega) (by omega) Try.underlying25 sz3) ?_
 refine q_run rfl rfl (fun _ H => r_ow H 2 rfl rfl hy ag3) ?_
 refine q_run rfl rfl (fun _ H => r_as (v := .int _ _) rfl) ?_
 refine q_nil ?_
 intro _ H'; clear H; have H := H'; clear H'
 refine c_norm ?_
 refine k_seq ?_
 refine k_qt 14 mixed (by kernel_rfl) H rfl rfl ?_
 refine q_run rfl rfl (fun _ H => r_mv (v := .pointer _) rfl) ?_
 refine q_run rfl rfl (fun _ H => r_mv (v := .pointer _) rfl) ?_
 refine q_run rfl rfl (fun _ H => r_nc rfl) ?_
 refine q_run rfl rfl (fun _ H => r_fa0 rfl fo110_4) ?_
 refine q_run rfl rfl (fun _ H => r_lo H 0 rfl rfl rfl ag25) ?_
 refine q_run rfl rfl (fun _ H => r_mv (v := .pointer _) rfl) ?_
 refine q_run rfl rfl (fun _ H => r_nc rfl) ?_
 refine q_run rfl rfl (fun _ H => r_fa0 rfl fo110_4) ?_
 refine q_run rfl rfl (fun _ H => r_lo H 0 rfl rfl rfl ag25) ?_
 refine q_run rfl rfl (fun _ H => r_len rfl Try.underlying25) ?_
 refine q_run rfl rfl (fun _ H => r_sub rfl rfl (wI (by omega))) ?_
 refine q_run rfl rfl (fun _ H => r_shiA (j := s.op.length - 1) rfl rfl (by omega) (by omega) Try.underlying25 sz3) ?_
 refine q_run rfl rfl (fun _ H => r_nc rfl) ?_
 refine q_run rfl rfl (fun _ H => r_fa0 rfl fo110_4) ?_
 refine q_nil ?_
 intro _ H'; clear H; have H := H'; clear H'
 refine s_st (u := .slice _ _ _) H 0 rfl rfl rfl rfl rfl rfl sz25 ?_
 clear H; intro _ H; simp only [jA, jB, jC, jD, jE, jF, jG, jH, jI, jJ, jK, Nat.reduceAdd] at H
 refine k_nc ?_
 refine k_seq ?_
 replace H := H.shrink2 (m := s.op.length - 1) 2 rfl (by omega)
 rw [Nat.mul_one, ← List.map_take] at H
 have hpl : (s.op.take (s.op.length - 1)).length = s.op.length - 1 := by rw [List.length_take]; omega
 replace H : Heap w I [grp (trE g n A k c p bs bb (some ⟨q, 0, none⟩) oc (Tr.pop s))] _ := grp_heap (by
  unfold trE Tr.pop
  simp only [hpl]
  exact H)
 refine k_rg ?_
 refine s_run rfl rfl (rmp rfl) ?_
 refine s_run rfl rfl (r_nc rfl) ?_
 refine s_run rfl rfl (r_fa0 rfl fo110_0) ?_
 refine s_run rfl rfl (r_lo (Heap.start (H.grp_ents 0 rfl)) 0 rfl rfl rfl ag46) ?_
 refine s_run rfl rfl (rmi rfl) ?_
 refine s_call rfl (hPt H.only) (ca62 rfl) ?_
 rintro e W1 ⟨QA, qc, rfl, H'⟩
 refine ⟨_, rfl, ?_⟩
 have H := H.more H'; clear H'; simp only [List.cons_append, List.nil_append] at H
 refine s_run rfl rfl (rmt rfl) ?_
 refine s_run rfl rfl (r_ext (v := .slice _ _ _) rfl rfl) ?_
 refine s_run rfl rfl (r_ext (v := .int _ _) rfl rfl) ?_
 refine s_run rfl rfl (ras rfl) ?_
 refine s_run rfl rfl (rai rfl) ?_
 refine k_nc ?_
 refine k_seq ?_
 refine k_sg ?_
 refine s_run rfl rfl (rms rfl) ?_
 refine s_run rfl rfl (r_len rfl Try.underlying25) ?_
 refine s_run rfl rfl (rmi rfl) ?_
 refine k_nc ?_
 refine k_b ?_
 refine k_loop (fun z f W => ∃ (i : Nat) (OA : Option Addr) (oc : Nat), i ≤ l.length ∧ z = l.length - i ∧ f 0 = ptr p ∧ f 3 = .int .i64 y ∧ f 49 = .slice QA l.length qc ∧ f 50 = .int .i64 l.length ∧ f 51 = .int .i64 i ∧ Heap w I [ownN 1 (.slice QA l.length qc) l.length (l.map (Value.int .i64)) 3, grp (trE g n A k c p bs bb OA oc (Tr.along (Ob.pl n d.cache hs) (Tr.pop s) y l i))] W) l.length ⟨0, _, oc, by omega, rfl, rfl, rfl, rfl, rfl, rfl, H⟩ ?_
 clear H
 rintro z f W ⟨i, OA, oc2, hi, rfl, f0, f3, f49, f50, f51, H⟩
 obtain ⟨f, rfl⟩ := live5 f0 f3 f49 f50 f51
 clear f0 f3 f49 f50 f51
 have hok2 := hok.pop.along y l i
 by_cases hlt : i < l.length
 ·obtain ⟨x, hx⟩ : ∃ x, l[i]? = some x := ⟨_, List.getElem?_eq_getElem (by omega)⟩
  have hxb := hpb x (List.mem_of_getElem? hx)
  have hxd : l.getD i 0 = x := by rw [List.getD_eq_getElem?_getD, hx]; rfl
  have hln2 := trLen hok2
  obtain ⟨r, rfl⟩ := H.own_some 0 rfl (by omega)
  have hR := fun {W : World} (H : Heap w I [ownN 1 (.slice (some ⟨r, 0, none⟩) l.length qc) l.length (l.map (Value.int .i64)) 3, grp (trE g n A k c p bs bb OA oc2 (Tr.along (Ob.pl n d.cache hs) (Tr.pop s) y l i))] W) => trReach ((hDv H).two 1 rfl) hw hl ((hS2 H).mono (fun j hj => by rw [ids_cons, ids_cons]; exact List.mem_append_right _ (List.mem_append_right _ (List.mem_append_left _ hj)))) hk hk2 hW (by omega) (by omega) y i x ⟨by omega, by omega⟩ ⟨by omega, by omega⟩ ⟨by omega, by omega⟩
  refine k_sg ?_
  refine s_run rfl rfl (r_lssT rfl rfl (by omega)) ?_
  refine k_nc ?_
  refine k_seq ?_
  refine k_t rfl ?_
  refine k_skip ?_
  refine c_norm ?_
  refine k_seq ?_
  refine k_b ?_
  refine k_sg ?_
  refine s_run rfl rfl (rmi rfl) ?_
  refine s_run rfl rfl (r_ix1 rfl rfl rfl (by omega) Try.underlying25 sz3) ?_
  refine s_run rfl rfl (r_ow H 0 rfl rfl hx ag3) ?_
  refine s_run rfl rfl (rai rfl) ?_
  refine s_run rfl rfl (rai rfl) ?_
  refine k_nc ?_
  refine k_rg ?_
  refine s_run rfl rfl (rmp rfl) ?_
  refine s_run rfl rfl (rmi rfl) ?_
  refine s_run rfl rfl (rmi rfl) ?_
  refine s_run rfl rfl (r_bd (bd113_0_1 _ _) rfl) ?_
  refine s_run rfl rfl (rmi rfl) ?_
  refine s_call rfl (hR H) (ca61 rfl) ?_
  rintro e W1 ⟨rfl, OA', oc', H'⟩
  refine ⟨_, rfl, ?_⟩
  have H := H.grp_at 1 rfl H'; clear H'; simp only [List.set_cons_zero, List.set_cons_succ] at H
  refine k_nil ?_
  refine b_norm ?_
  refine c_norm ?_
  refine k_rg ?_
  refine s_run rfl rfl (r_add rfl rfl (wI (by omega))) ?_
  refine s_run rfl rfl (rmi rfl) ?_
  refine k_nil ?_
  refine c_round ?_
  refine ⟨_, _, ?_, rfl, i + 1, OA', oc', by omega, rfl, rfl, rfl, rfl, rfl, rfl, ?_⟩
  ·omega
  ·rw [Tr.along, hxd]; exact H
 ·obtain rfl : i = l.length := by omega
  refine k_sg ?_
  refine s_run rfl rfl (r_lssF rfl rfl (by omega)) ?_
  refine k_nc ?_
  refine k_seq ?_
  refine k_f rfl ?_
  refine k_exit ?_
  refine c_exit ?_
  refine c_exit ?_
  refine b_hit ?_
  refine c_norm ?_
  refine k_sg ?_
  refine s_run rfl rfl (rab rfl) ?_
  refine k_nc ?_
  refine k_ret ?_
  refine fin1r (v := .bool _) rfl rfl ?_
  exact ⟨rfl, OA, oc2, grp_open H.drop⟩
end
end Go.Proofs.Ytlakbclnilakbaa
end

section
namespace Go.Proofs.Ytlakbclnilakbaa.Tr
theorem reach_badE (P : Int → Bool) (s : S) (e : Int × Int) (a : Int) (h : (reach P s e a).bad = []) : s.bad = [] := ((reach_bad P s e a).2.1 h).1
theorem along_badE (P : Int → Bool) (s : S) (y : Int) (l : List Int) : ∀ i, (along P s y l i).bad = [] → s.bad = []
 | 0, h => h
 | i + 1, h => along_badE P s y l i (reach_badE _ _ _ _ h)
theorem steps_badE (P : Int → Bool) (pt : Int → List Int) (s : S) : ∀ k, (steps P pt s k).bad = [] → s.bad = []
 | 0, h => h
 | k + 1, h => steps_badE P pt s k (along_badE P (pop (steps P pt s k)) _ _ _ h)
theorem code_bad (P : Int → Bool) (s : S) (e : Int × Int) (a : Int) (h : (reach P s e a).bad = []) : code P s a = 0 := by
 unfold reach at h; unfold code
 split
 ·rfl
 ·rename_i h1
  rw [if_neg h1] at h
  split
  ·rfl
  ·rename_i h2
   rw [if_neg h2] at h
   have h3 : mput s.bad e a = [] := h
   have := (mput_len s.bad e a).2
   rw [h3] at this; simp at this
/-- two ends of the same steps are one -/
theorem ends_eq {P : Int → Bool} {pt : Int → List Int} {s : S} {N M : Nat} (h1 : ∀ j, j < N → (steps P pt s j).op ≠ []) (h2 : (steps P pt s N).op = []) (h3 : ∀ j, j < M → (steps P pt s j).op ≠ []) (h4 : (steps P pt s M).op = []) : N = M := by
 rcases Nat.lt_trichotomy N M with h | h | h
 ·exact absurd h2 (h3 N h)
 ·exact h
 ·exact absurd h4 (h1 M h)
end Go.Proofs.Ytlakbclnilakbaa.Tr
end

section
namespace Go.Proofs.Ytlakbclnilakbaa
open Go.RowKit
theorem mleft_set_len {α β : Type} {lb : List ((α × β) × Bool)} {j : Nat} {p : α × β} (h : lb[j]? = some (p, true)) : (mleft lb).length = (mleft (lb.set j (p, false))).length + 1 := by
 have := (mleft_set lb j p h).length_eq; simpa using this
theorem mset_fst {α β : Type} {lb : List ((α × β) × Bool)} {j : Nat} {p : α × β} (h : lb[j]? = some (p, true)) : (lb.set j (p, false)).map (·.1) = lb.map (·.1) := by
 rw [List.map_set]
 apply List.ext_getElem?
 intro i
 rw [List.getElem?_set]
 by_cases e : j = i
 ·subst e
  rw [if_pos rfl, List.getElem?_map, h]
  have := (List.getElem?_eq_some_iff.1 h).1
  rw [if_pos (by simpa using this)]; rfl
 ·rw [if_neg e]
theorem iter_start {α β : Type} (l : List (α × β)) : (l.map fun p => (p, true)).map (fun x : (α × β) × Bool => x.1) = l := by rw [List.map_map]; exact List.map_id' l
section
variable {P : Program} {n : Sz} {f : Nat → Value} {W w0 : World} {F : List Nat} {L : List Ent} {dst : Option Tmp} {ty : TypeId} {pos : String} {af : Array Edge} {g : Option (Nat × Bool)} {x : Operand} {t kt e : TypeId} {α β : Type} [DecidableEq α] {C : KC P kt α} {venc : β → Value} {b : Nat} {l : List (α × β)}
theorem r_lenM (H : Heap w0 F L W) (j : Nat) (hj : L[j]? = some (mp C venc b l)) (hx : ev n f x = .map (some b)) (h : P.underlying t = some (.map kt e)) : (execOp (ev n f) ⟨dst, .call ⟨.builtin .len, #[x], #[t]⟩, ty, pos, af, g⟩).run P W = .ok (.value (.int .i64 l.length)) W := by
 obtain ⟨es, clock, hb, hk⟩ := H.mp_get j hj
 have h2 : (Builtin.len_ #[t] ty #[.map (some b)]).run P W = .ok (.int .i64 l.length) W := by
  have hg : (getObj b).run P W = .ok (.map es clock) W := by simp [getObj, Sem.run, hb]
  simp [Builtin.len_, run_underlying h, hg, hk.len]; rfl
 have h3 : #[x].map (ev n f) = #[Value.map (some b)] := by simp [hx]
 simp only [execOp, resolve, invoke, builtin, h3, Sem.run_bind, Sem.run_pure, Result.andThen_ok, h2]
theorem r_neg {k : IntKind} {a c : Int} (hx : ev n f x = .int k a) (hr : k.wrap (0 - a) = c) : (execOp (ev n f) ⟨dst, .unOp .neg t x, ty, pos, af, g⟩).run P W = .ok (.value (.int k c)) W := by
 subst hr
 simp [execOp, hx, Op.unary, Op.intArith]
end
end Go.Proofs.Ytlakbclnilakbaa
end

section
namespace Go.Proofs.Ytlakbclnilakbaa
open Go.RowKit
set_option maxRecDepth 100000
set_option maxHeartbeats 4000000
section
variable {g : Geo} {d : Nv.D} {n k c p bs bb oc : Nat} {A OA : Option Addr} {hs : List Ob.H3} {s : Tr.S} {w : World} {K : List Nat}
theorem trRun (hE : Ents [grp (devL g d), grp (trE g n A k c p bs bb OA oc s)] w) (hw : Ob.W64 d.cache) (hl : d.cache.length ≤ 1000000000) (hS : HSees w K A hs) (hIK : ∀ i ∈ ids (trE g n A k c p bs bb OA oc s), i ∈ K) (hk : hs.length = k) (hk2 : k ≤ 1000000) (hW : hsW hs) (hn : n ≤ 1900) (hok : Tr.Ok (Ob.pl n d.cache hs) s) (hlen : s.seen.length = s.op.length + 0) :
    Calls Try.prog 24 [ptr p].toArray w fun e w' => ∃ (N : Nat) (OA' : Option Addr) (oc' : Nat), (∀ j, j < N → (Tr.steps (Ob.pl n d.cache hs) (Ob.ptrs d.cache) s j).op ≠ []) ∧ (Tr.steps (Ob.pl n d.cache hs) (Ob.ptrs d.cache) s N).op = [] ∧ e = .returned (.int .i64 (if (Tr.steps (Ob.pl n d.cache hs) (Ob.ptrs d.cache) s N).bad = [] then 0 else 22)) ∧ Heap w (ids (trE g n A k c p bs bb OA oc s)) (trE g n A k c p bs bb OA' oc' (Tr.steps (Ob.pl n d.cache hs) (Ob.ptrs d.cache) s N)) w' := by
  have hDv := fun {L : List Ent} {W : World} (H : Heap w (ids (trE g n A k c p bs bb OA oc s)) L W) => hE.on H
  have hS2 := fun {L : List Ent} {W : World} (H : Heap w (ids (trE g n A k c p bs bb OA oc s)) L W) => hS.on H hIK
  have H := grp_start hE.snd
  generalize hI : ids (trE g n A k c p bs bb OA oc s) = I at *
  refine k_in (N := 11) Try.func24 rfl rfl rfl ?_
  refine k_sg ?_
  refine s_run rfl rfl (rai rfl) ?_
  refine k_nc ?_
  refine k_seq ?_
  refine k_b ?_
  refine k_loop (fun z f W => ∃ (i : Nat) (OA : Option Addr) (oc : Nat), i ≤ 512 * n ∧ z = 512 * n - i ∧ (∀ j, j < i → (Tr.steps (Ob.pl n d.cache hs) (Ob.ptrs d.cache) s j).op ≠ []) ∧ f 0 = ptr p ∧ f 2 = .int .i64 0 ∧ Heap w I [grp (trE g n A k c p bs bb OA oc (Tr.steps (Ob.pl n d.cache hs) (Ob.ptrs d.cache) s i))] W) (512 * n) ⟨0, OA, oc, by omega, rfl, by omega, rfl, rfl, H⟩ ?_
  clear H
  rintro z f W ⟨i, OA, oc2, hi, rfl, hj, f0, f2, H⟩
  obtain ⟨f, rfl⟩ := live2 f0 f2
  clear f0 f2
  have hoki := hok.steps (pt := Ob.ptrs d.cache) i
  have hleni := Tr.steps_len (Ob.pl n d.cache hs) (Ob.ptrs d.cache) s hlen i hj
  have hlni := trLen hoki
  generalize hs2 : Tr.steps (Ob.pl n d.cache hs) (Ob.ptrs d.cache) s i = s2 at *
  by_cases h0 : s2.op = []
  · have hSt := fun {W : World} hE => trStep0 (g := g) (n := n) (k := k) (c := c) (p := p) (bs := bs) (bb := bb) (oc := oc2) (A := A) (OA := OA) (s := s2) (w := W) hE h0
    by_cases hb : s2.bad = []
    · have hbl : (s2.bad.length : Int) = 0 := by rw [hb]; rfl
      refine k_seq ?_
      refine k_sg ?_
      refine s_run rfl rfl (rmp rfl) ?_
      refine s_call rfl (hSt (H.grp_ents 0 rfl)) (ca26 rfl) ?_
      rintro e W1 ⟨rfl, H'⟩
      refine ⟨_, rfl, ?_⟩
      have H := H.same H'; clear H'
      refine k_nc ?_
      refine k_f rfl ?_
      refine k_exit ?_
      refine c_exit ?_
      refine c_exit ?_
      refine b_hit ?_
      refine c_norm ?_
      refine k_seq ?_
      refine k_sg ?_
      refine s_run rfl rfl (rmp rfl) ?_
      refine s_run rfl rfl (r_nc rfl) ?_
      refine s_run rfl rfl (r_fa0 rfl fo110_5) ?_
      refine s_run rfl rfl (r_lo (Heap.start (H.grp_ents 0 rfl)) 0 rfl rfl rfl ag108) ?_
      refine s_run rfl rfl (r_lenM (Heap.start (H.grp_ents 0 rfl)) 3 rfl rfl Try.underlying108) ?_
      refine s_run rfl rfl (r_gtrF rfl rfl (by omega)) ?_
      refine k_nc ?_
      refine k_f rfl ?_
      refine k_skip ?_
      refine c_norm ?_
      refine k_sg ?_
      refine s_run rfl rfl (rai rfl) ?_
      refine k_nc ?_
      refine k_ret ?_
      refine fin1r (v := .int _ _) rfl rfl ?_
      rw [← hs2] at H h0 hb
      exact ⟨i, OA, oc2, hj, h0, by rw [if_pos hb], grp_open H⟩
    · have hbl := List.length_pos_iff.2 hb
      refine k_seq ?_
      refine k_sg ?_
      refine s_run rfl rfl (rmp rfl) ?_
      refine s_call rfl (hSt (H.grp_ents 0 rfl)) (ca26 rfl) ?_
      rintro e W1 ⟨rfl, H'⟩
      refine ⟨_, rfl, ?_⟩
      have H := H.same H'; clear H'
      refine k_nc ?_
      refine k_f rfl ?_
      refine k_exit ?_
      refine c_exit ?_
      refine c_exit ?_
      refine b_hit ?_
      refine c_norm ?_
      refine k_seq ?_
      refine k_sg ?_
      refine s_run rfl rfl (rmp rfl) ?_
      refine s_run rfl rfl (r_nc rfl) ?_
      refine s_run rfl rfl (r_fa0 rfl fo110_5) ?_
      refine s_run rfl rfl (r_lo (Heap.start (H.grp_ents 0 rfl)) 0 rfl rfl rfl ag108) ?_
      refine s_run rfl rfl (r_lenM (Heap.start (H.grp_ents 0 rfl)) 3 rfl rfl Try.underlying108) ?_
      refine s_run rfl rfl (r_gtrT rfl rfl (by omega)) ?_
      refine k_nc ?_
      refine k_t rfl ?_
      refine k_sg ?_
      refine s_run rfl rfl (rai rfl) ?_
      refine k_nc ?_
      refine k_ret ?_
      refine c_ret ?_
      refine fin1r (v := .int _ _) rfl rfl ?_
      rw [← hs2] at H h0 hb
      exact ⟨i, OA, oc2, hj, h0, by rw [if_neg hb], grp_open H⟩
  · have hpos := List.length_pos_iff.2 h0
    have hSt := fun {W : World} (H : Heap w I [grp (trE g n A k c p bs bb OA oc2 s2)] W) => trStep ((hDv H).two 0 rfl) hw hl (hS2 H) (fun j hj => List.mem_append_right _ (by rw [ids_cons]; exact List.mem_append_left _ hj)) hk hk2 hW hn hoki h0
    refine k_seq ?_
    refine k_sg ?_
    refine s_run rfl rfl (rmp rfl) ?_
    refine s_call rfl (hSt H) (ca26 rfl) ?_
    rintro e W1 ⟨rfl, OA', oc', H'⟩
    refine ⟨_, rfl, ?_⟩
    have H := H.grp_at 0 rfl H'; clear H'; simp only [List.set_cons_zero] at H
    refine k_nc ?_
    refine k_t rfl ?_
    refine k_skip ?_
    refine c_norm ?_
    refine k_b ?_
    refine k_skip ?_
    refine b_norm ?_
    refine c_round ?_
    refine ⟨_, _, ?_, rfl, i + 1, OA', oc', by omega, rfl, fun j hji => ?_, rfl, rfl, ?_⟩
    · omega
    · by_cases e : j = i
      · subst e; rw [hs2]; exact h0
      · exact hj j (by omega)
    · rw [Tr.steps, hs2]; exact H
theorem trSeen (hE : Ents (trE g n A k c p bs bb OA oc s) w) (hm : s.seen.length ≤ 1000000) :
    Calls Try.prog 25 [ptr p].toArray w fun e w' => ∃ (A' : Option Addr) (c' : Nat), e = .returned (.slice A' s.seen.length c') ∧ Heap w [] [ownN 1 (.slice A' s.seen.length c') s.seen.length ((srt s.seen).map (Value.int .i64)) 3] w' := by
  have HR := Heap.start hE
  obtain ⟨es, clock, M⟩ := hE.map_at 1 rfl
  have H := Heap.nil w
  unfold trE at HR
  have hfst : (seenM s.seen).map Prod.fst = s.seen := by unfold seenM; rw [List.map_map]; exact List.map_id _
  refine k_in (N := 21) Try.func25 rfl rfl rfl ?_
  refine k_sg ?_
  refine s_run rfl rfl (ras rfl) ?_
  refine k_nc ?_
  refine k_sg ?_
  refine s_run rfl rfl (ras rfl) ?_
  refine k_nc ?_
  refine k_seq ?_
  refine k_sg ?_
  refine s_run rfl rfl (rmp rfl) ?_
  refine s_run rfl rfl (r_nc rfl) ?_
  refine s_run rfl rfl (r_fa0 rfl fo110_3) ?_
  refine s_run rfl rfl (r_lo (HR.same H.only) 0 rfl rfl rfl ag107) ?_
  refine s_rmR M H rfl rfl Try.underlying107 ?_
  intro r _ H'; clear H; have H := H'; clear H'
  refine k_nc ?_
  refine k_b ?_
  replace H := H.own_nil 1 3
  refine k_loop (fun z f W => ∃ (lb : List ((Int × Bool) × Bool)) (cur : Option (Int × Bool)) (OA : Option Addr) (co : Nat) (out : List Int), z = (mleft lb).length ∧ lb.map (·.1) = seenM s.seen ∧ (out ++ (mleft lb).map Prod.fst).Perm s.seen ∧ f 3 = .slice OA out.length co ∧ f 9 = ptr r ∧ Heap w [] [ownN 1 (.slice OA out.length co) out.length (out.map (Value.int .i64)) 3, mri kT Value.bool es clock bs r lb cur] W) _ ⟨(seenM s.seen).map fun p => (p, true), none, none, 0, [], rfl, iter_start _, by rw [mleft_all, hfst]; exact List.Perm.refl _, rfl, rfl, H⟩ ?_
  clear H
  rintro z f W ⟨lb, cur, OA, co, out, rfl, hlb, hpm, f3, f9, H⟩
  have hol : out.length ≤ 1000000 := by have := hpm.length_eq; simp at this; omega
  obtain ⟨f, rfl⟩ := live2 f3 f9
  clear f3 f9
  by_cases hl : mleft lb = []
  · refine k_sg ?_
    refine s_nx0R M H 1 (hl) rfl rfl rfl ?_
    refine s_run rfl rfl (r_ext (v := .bool _) rfl rfl) ?_
    refine k_nc ?_
    refine k_seq ?_
    refine k_f rfl ?_
    refine k_exit ?_
    refine c_exit ?_
    refine c_exit ?_
    refine b_hit ?_
    refine c_norm ?_
    refine k_seq ?_
    rw [hl, List.map_nil, List.append_nil] at hpm
    have hlen : out.length = s.seen.length := by have := hpm.length_eq; simpa using this
    have hS := fun {W : World} hE => gSort OA out.length co out 3 W hE (by omega)
    refine k_rg ?_
    refine s_run rfl rfl (rms rfl) ?_
    refine s_call rfl (hS (H.oneE 0 rfl)) (ca55 rfl) ?_
    rintro e W1 ⟨rfl, H'⟩
    refine ⟨_, rfl, ?_⟩
    have H := H.at 0 rfl H' (fun i hi => by simpa [ids] using hi); clear H'
    refine k_nc ?_
    refine k_sg ?_
    refine s_run rfl rfl (rms rfl) ?_
    refine s_run rfl rfl (ras rfl) ?_
    refine k_nc ?_
    refine k_ret ?_
    refine fin1r (v := .slice _ _ _) rfl rfl ?_
    rw [srt_eq hpm] at H
    rw [hlen] at H
    exact ⟨OA, co, by rw [hlen], (H : Heap w [] ([_] ++ [_]) _).drops⟩
  · refine k_sg ?_
    refine s_nx1R M H 1 (hl) rfl rfl rfl ?_
    intro j q _ hq gq H'; simp only [List.set_cons_zero, List.set_cons_succ, List.take_succ_cons, List.take_zero, List.drop_succ_cons, List.drop_zero, List.cons_append, List.nil_append, List.append_nil, List.length_cons, List.length_nil, Nat.reduceAdd] at H'; clear H; have H := H'; clear H'
    refine s_run rfl rfl (r_ext (v := .bool _) rfl rfl) ?_
    refine k_nc ?_
    refine k_seq ?_
    refine k_t rfl ?_
    refine k_skip ?_
    refine c_norm ?_
    refine k_b ?_
    refine k_sg ?_
    refine s_run rfl rfl (r_enR M H 1 rfl rfl) ?_
    refine s_run rfl rfl (r_ext (v := .int _ _) rfl rfl) ?_
    refine s_run rfl rfl (rai rfl) ?_
    refine k_nc ?_
    refine k_rg ?_
    refine s_run rfl rfl (rms rfl) ?_
    refine s_run rfl rfl (rmi rfl) ?_
    refine s_app1 (enc := (Value.int .i64)) H 0 rfl rfl rfl rfl rfl rfl rfl (by omega) Try.underlying25 inf3 rfl ?_
    intro _ An cn _ H'; simp only [List.set_cons_zero, List.set_cons_succ, List.take_succ_cons, List.take_zero, List.drop_succ_cons, List.drop_zero, List.cons_append, List.nil_append, List.append_nil, List.length_cons, List.length_nil, Nat.reduceAdd] at H'; clear H; have H := H'; clear H'
    refine s_run rfl rfl (ras rfl) ?_
    refine k_nil ?_
    refine b_norm ?_
    refine c_round ?_
    have hfs := mset_fst hq
    have hml := mleft_set_len hq
    refine ⟨_, _, ?_, rfl, lb.set j (q, false), some q, An, cn, out ++ [q.1], rfl, by rw [hfs]; exact hlb, ?_, by rw [List.length_append]; rfl, rfl, by rw [List.length_append]; exact H⟩
    · omega
    · have hp := (mleft_set lb j q hq).map Prod.fst
      rw [List.append_assoc]
      exact (List.Perm.append_left out hp.symm).trans hpm
theorem trClosure (hE : Ents (devL g d) w) (hw : Ob.W64 d.cache) (hl : d.cache.length ≤ 1000000000) (hS : HSees w [] A hs) (hk : hs.length = k) (hk2 : k ≤ 1000000) (hW : hsW hs) (hn : n ≤ 1900) (FA : Option Addr) (fn fc : Nat) (l : List Int) (hF : Sees (Value.int .i64) w [] FA l) (hfl : l.length = fn) (hfn : fn ≤ 1000000) (hlb : ∀ a ∈ l, i64ok a) :
    Calls Try.prog 27 [ptr g.p, .agg [.int .i64 n].toArray, .slice A k c, .slice FA fn fc].toArray w fun e w' => ∃ (N : Nat) (s1 : Tr.S), s1 = Tr.rootsTo (Ob.pl n d.cache hs) Tr.s0 l l.length ∧ (∀ j, j < N → (Tr.steps (Ob.pl n d.cache hs) (Ob.ptrs d.cache) s1 j).op ≠ []) ∧ (Tr.steps (Ob.pl n d.cache hs) (Ob.ptrs d.cache) s1 N).op = [] ∧
      ((Tr.steps (Ob.pl n d.cache hs) (Ob.ptrs d.cache) s1 N).bad ≠ [] ∧ e = .returned (.tuple [.slice none 0 0, .int .i64 22].toArray) ∧ Only [] w w' ∨
       (Tr.steps (Ob.pl n d.cache hs) (Ob.ptrs d.cache) s1 N).bad = [] ∧ ∃ A' c', e = .returned (.tuple [.slice A' (Tr.steps (Ob.pl n d.cache hs) (Ob.ptrs d.cache) s1 N).seen.length c', .int .i64 0].toArray) ∧ Heap w [] [ownN 1 (.slice A' (Tr.steps (Ob.pl n d.cache hs) (Ob.ptrs d.cache) s1 N).seen.length c') (Tr.steps (Ob.pl n d.cache hs) (Ob.ptrs d.cache) s1 N).seen.length ((srt (Tr.steps (Ob.pl n d.cache hs) (Ob.ptrs d.cache) s1 N).seen).map (Value.int .i64)) 3] w') := by
  have HD := grp_start hE
  have H := Heap.nil w
  refine k_in (N := 43) Try.func27 rfl rfl rfl ?_
  refine k_sg ?_
  refine s_box H rfl rfl ?_
  intro p5 _ H'; clear H; have H := H'; clear H'
  refine s_run rfl rfl (ras rfl) ?_
  refine s_run rfl rfl (rai rfl) ?_
  refine k_nc ?_
  refine k_sg ?_
  refine s_run rfl rfl (rmp rfl) ?_
  refine s_run rfl rfl (r_la H 0 rfl rfl rfl ag48 sz48) ?_
  refine s_run rfl rfl (rms rfl) ?_
  refine s_call rfl (trNew g n A k c _) (ca21 rfl) ?_
  rintro e W1 ⟨p, bs, bb, rfl, H'⟩
  refine ⟨_, rfl, ?_⟩
  have H := H.more (A := [grp _]) (grp_heap H'); clear H'; simp only [List.cons_append, List.nil_append] at H
  refine s_run rfl rfl (rap rfl) ?_
  refine k_nc ?_
  refine k_sg ?_
  refine s_run rfl rfl (rai rfl) ?_
  refine k_nc ?_
  refine k_seq ?_
  refine k_sg ?_
  refine s_run rfl rfl (rms rfl) ?_
  refine s_run rfl rfl (r_len rfl Try.underlying25) ?_
  refine s_run rfl rfl (rmi rfl) ?_
  refine k_nc ?_
  refine k_b ?_
  replace H := Heap.subl H [0] rfl rfl
  refine k_loop (fun z f W => ∃ (i : Nat) (OA : Option Addr) (oc : Nat) (q : Int), i ≤ fn ∧ z = fn - i ∧ (q = 0 ∨ (Tr.rootsTo (Ob.pl n d.cache hs) Tr.s0 l i).bad ≠ []) ∧ f 10 = ptr p ∧ f 11 = .int .i64 q ∧ f 20 = .slice FA fn fc ∧ f 21 = .int .i64 fn ∧ f 22 = .int .i64 i ∧ Heap w [] [grp (trE g n A k c p bs bb OA oc (Tr.rootsTo (Ob.pl n d.cache hs) Tr.s0 l i))] W) fn ⟨0, none, 0, 0, by omega, rfl, .inl rfl, rfl, rfl, rfl, rfl, rfl, H⟩ ?_
  clear H
  rintro z f W ⟨i, OA, oc, q, hi, rfl, hq, f10, f11, f20, f21, f22, H⟩
  obtain ⟨f, rfl⟩ := live5 f10 f11 f20 f21 f22
  clear f10 f11 f20 f21 f22
  have hoki := (Tr.ok0 (Ob.pl n d.cache hs)).rootsTo l i
  have hDv : ∀ {s2 : Tr.S} {OA : Option Addr} {oc : Nat} {W2 : World}, Heap w [] [grp (trE g n A k c p bs bb OA oc s2)] W2 → Ents [grp (devL g d), grp (trE g n A k c p bs bb OA oc s2)] W2 := fun {s2 OA oc W2} H => by
    have h1 := Heap.more HD H
    exact ⟨fun E hE => by rcases List.mem_cons.1 hE with rfl | h2; exact h1.ok _ (by simp); exact h1.ok _ (by simp at h2 ⊢; exact .inl h2), by
      have h2 := h1.nd
      rw [List.singleton_append, ids_cons, ids_cons] at h2
      rw [ids_cons, ids_cons]
      have h3 : ids ([] : List Ent) = [] := rfl
      rw [h3, List.append_nil] at h2 ⊢
      exact (List.perm_append_comm.nodup_iff).1 h2⟩
  have hSv : ∀ {s2 : Tr.S} {OA : Option Addr} {oc : Nat} {W2 : World}, Heap w [] [grp (trE g n A k c p bs bb OA oc s2)] W2 → HSees W2 (ids (trE g n A k c p bs bb OA oc s2)) A hs := fun {s2 OA oc W2} H => (hS.on H (by simp)).mono (fun j hj => List.mem_append_right _ (by rw [ids_cons]; exact List.mem_append_left _ hj))
  by_cases hlt : i < fn
  · obtain ⟨x, hx⟩ : ∃ x, l[i]? = some x := ⟨_, List.getElem?_eq_getElem (by omega)⟩
    have hxd : l.getD i 0 = x := by rw [List.getD_eq_getElem?_getD, hx]; rfl
    obtain ⟨b, o, rfl, _, hrd⟩ := hF (by omega)
    have cx := hrd i x hx
    have hR := fun {W : World} (H : Heap w [] [grp (trE g n A k c p bs bb OA oc (Tr.rootsTo (Ob.pl n d.cache hs) Tr.s0 l i))] W) => trRoot (hDv H) hw hl (hSv H) hk hk2 hW hn hoki x (hlb x (List.mem_of_getElem? hx))
    have hrs : Tr.rootsTo (Ob.pl n d.cache hs) Tr.s0 l (i + 1) = Tr.reach (Ob.pl n d.cache hs) (Tr.rootsTo (Ob.pl n d.cache hs) Tr.s0 l i) (-1, 0) x := by rw [Tr.rootsTo, hxd]
    have hcb := Tr.code_bad (Ob.pl n d.cache hs) (Tr.rootsTo (Ob.pl n d.cache hs) Tr.s0 l i) (-1, 0) x
    have hbe := Tr.reach_badE (Ob.pl n d.cache hs) (Tr.rootsTo (Ob.pl n d.cache hs) Tr.s0 l i) (-1, 0) x
    rw [← hrs] at hR hcb hbe
    generalize Tr.code (Ob.pl n d.cache hs) (Tr.rootsTo (Ob.pl n d.cache hs) Tr.s0 l i) x = cd at *
    by_cases hc0 : cd = 0
    · subst hc0
      refine k_sg ?_
      refine s_run rfl rfl (r_lssT rfl rfl (by omega)) ?_
      refine k_nc ?_
      refine k_seq ?_
      refine k_t rfl ?_
      refine k_skip ?_
      refine c_norm ?_
      refine k_seq ?_
      refine k_b ?_
      refine k_sg ?_
      refine s_run rfl rfl (r_ix1o rfl rfl rfl (by omega) Try.underlying25 sz3) ?_
      refine s_run rfl rfl (r_lr H rfl cx (by simp) ag3) ?_
      refine s_run rfl rfl (rai rfl) ?_
      refine k_nc ?_
      refine k_sg ?_
      refine s_run rfl rfl (rmp rfl) ?_
      refine s_run rfl rfl (rmi rfl) ?_
      refine s_call rfl (hR H) (ca22 rfl) ?_
      rintro e W1 ⟨rfl, OA', oc', H'⟩
      refine ⟨_, rfl, ?_⟩
      have H := H.grp_at 0 rfl H'; clear H'; simp only [List.set_cons_zero] at H
      refine s_run rfl rfl (rai rfl) ?_
      refine k_nc ?_
      refine k_sg ?_
      refine s_run rfl rfl (rmi rfl) ?_
      refine s_run rfl rfl (r_neqF rfl rfl (by omega)) ?_
      refine k_nc ?_
      refine k_f rfl ?_
      refine k_skip ?_
      refine b_norm ?_
      refine c_norm ?_
      refine k_rg ?_
      refine s_run rfl rfl (r_add rfl rfl (wI (by omega))) ?_
      refine s_run rfl rfl (rmi rfl) ?_
      refine k_nil ?_
      refine c_round ?_
      exact ⟨_, _, by omega, rfl, i + 1, OA', oc', q, by omega, rfl, hq.imp id (fun h h2 => h (hbe h2)), rfl, rfl, rfl, rfl, rfl, H⟩
    · refine k_sg ?_
      refine s_run rfl rfl (r_lssT rfl rfl (by omega)) ?_
      refine k_nc ?_
      refine k_seq ?_
      refine k_t rfl ?_
      refine k_skip ?_
      refine c_norm ?_
      refine k_seq ?_
      refine k_b ?_
      refine k_sg ?_
      refine s_run rfl rfl (r_ix1o rfl rfl rfl (by omega) Try.underlying25 sz3) ?_
      refine s_run rfl rfl (r_lr H rfl cx (by simp) ag3) ?_
      refine s_run rfl rfl (rai rfl) ?_
      refine k_nc ?_
      refine k_sg ?_
      refine s_run rfl rfl (rmp rfl) ?_
      refine s_run rfl rfl (rmi rfl) ?_
      refine s_call rfl (hR H) (ca22 rfl) ?_
      rintro e W1 ⟨rfl, OA', oc', H'⟩
      refine ⟨_, rfl, ?_⟩
      have H := H.grp_at 0 rfl H'; clear H'; simp only [List.set_cons_zero] at H
      refine s_run rfl rfl (rai rfl) ?_
      refine k_nc ?_
      refine k_sg ?_
      refine s_run rfl rfl (rmi rfl) ?_
      refine s_run rfl rfl (r_neqT rfl rfl (by omega)) ?_
      refine k_nc ?_
      refine k_t rfl ?_
      refine k_rg ?_
      refine s_run rfl rfl (rmi rfl) ?_
      refine s_run rfl rfl (rai rfl) ?_
      refine k_nil ?_
      refine b_norm ?_
      refine c_norm ?_
      refine k_rg ?_
      refine s_run rfl rfl (r_add rfl rfl (wI (by omega))) ?_
      refine s_run rfl rfl (rmi rfl) ?_
      refine k_nil ?_
      refine c_round ?_
      exact ⟨_, _, by omega, rfl, i + 1, OA', oc', cd, by omega, rfl, .inr (fun h2 => hc0 (hcb h2)), rfl, rfl, rfl, rfl, rfl, H⟩
  · obtain rfl : i = l.length := by omega
    have hlen := Tr.rootsTo_len (Ob.pl n d.cache hs) l l.length
    generalize hs1 : Tr.rootsTo (Ob.pl n d.cache hs) Tr.s0 l l.length = s1 at *
    have hR := fun {W : World} (H : Heap w [] [grp (trE g n A k c p bs bb OA oc s1)] W) => trRun (hDv H) hw hl (hSv H) (fun _ h => h) hk hk2 hW hn hoki hlen
    refine k_sg ?_
    refine s_run rfl rfl (r_lssF rfl rfl (by omega)) ?_
    refine k_nc ?_
    refine k_seq ?_
    refine k_f rfl ?_
    refine k_exit ?_
    refine c_exit ?_
    refine c_exit ?_
    refine b_hit ?_
    refine c_norm ?_
    refine k_seq ?_
    refine k_sg ?_
    refine s_run rfl rfl (rmp rfl) ?_
    refine s_call rfl (hR H) (ca24 rfl) ?_
    rintro e W1 ⟨N, OA', oc', hN1, hN2, rfl, H'⟩
    refine ⟨_, rfl, ?_⟩
    have H := H.grp_at 0 rfl H'; clear H'; simp only [List.set_cons_zero] at H
    refine s_run rfl rfl (rai rfl) ?_
    refine k_nc ?_
    refine k_seq ?_
    by_cases hb : (Tr.steps (Ob.pl n d.cache hs) (Ob.ptrs d.cache) s1 N).bad = []
    · have hb1 := Tr.steps_badE _ _ _ _ hb
      obtain rfl : q = 0 := hq.elim id (fun h => absurd hb1 h)
      have hlnN := trLen (hoki.steps (pt := Ob.ptrs d.cache) N)
      have hSe := fun {W : World} hE => trSeen (g := g) (n := n) (k := k) (c := c) (p := p) (bs := bs) (bb := bb) (oc := oc') (A := A) (OA := OA') (s := Tr.steps (Ob.pl n d.cache hs) (Ob.ptrs d.cache) s1 N) (w := W) hE (by omega)
      rw [if_pos hb]
      refine k_rg ?_
      refine s_run rfl rfl (rmi rfl) ?_
      refine s_run rfl rfl (r_neqF rfl rfl (by omega)) ?_
      refine s_run rfl rfl (rmb rfl) ?_
      refine s_run rfl (g_on 37 (by kernel_rfl) rfl) (rmi rfl) ?_
      refine s_run rfl (g_on 37 (by kernel_rfl) rfl) (r_neqF rfl rfl (by omega)) ?_
      refine s_run rfl rfl (r_pkF (v := .bool _) rfl rfl) ?_
      refine k_nc ?_
      refine k_f rfl ?_
      refine k_skip ?_
      refine c_norm ?_
      refine k_sg ?_
      refine s_run rfl rfl (rmp rfl) ?_
      refine s_call rfl (hSe (H.grp_ents 0 rfl)) (ca25 rfl) ?_
      rintro e W1 ⟨A', c', rfl, H'⟩
      refine ⟨_, rfl, ?_⟩
      have H := H.more H'; clear H'; simp only [List.cons_append, List.nil_append] at H
      refine s_run rfl rfl (ras rfl) ?_
      refine s_run rfl rfl (rai rfl) ?_
      refine k_nc ?_
      refine k_ret ?_
      refine fin2r (v := .slice _ _ _) (v2 := .int _ _) rfl rfl rfl ?_
      exact ⟨N, s1, rfl, hN1, hN2, .inr ⟨hb, A', c', rfl, Heap.subl H [0] rfl rfl⟩⟩
    · rw [if_neg hb]
      refine k_rg ?_
      refine s_run rfl rfl (rmi rfl) ?_
      refine s_run rfl rfl (r_neqT rfl rfl (by omega)) ?_
      refine s_run rfl rfl (rmb rfl) ?_
      refine s_off rfl (g_off 37 (by kernel_rfl) rfl rfl) ?_
      refine s_off rfl (g_off 37 (by kernel_rfl) rfl rfl) ?_
      refine s_run rfl rfl (r_pkT (v := .bool _) rfl rfl) ?_
      refine k_nc ?_
      refine k_t rfl ?_
      refine k_sg ?_
      refine s_run rfl rfl (ras rfl) ?_
      refine s_run rfl rfl (rai rfl) ?_
      refine k_nc ?_
      refine k_ret ?_
      refine c_ret ?_
      refine fin2r (v := .slice _ _ _) (v2 := .int _ _) rfl rfl rfl ?_
      exact ⟨N, s1, rfl, hN1, hN2, .inl ⟨hb, rfl, H.only⟩⟩
end
end Go.Proofs.Ytlakbclnilakbaa
end

section
namespace Go.Proofs.Ytlakbclnilakbaa
open Go.RowKit
def fuseRel (d : Nv.D) (rf : Int) : Prop := (d.armed = true ∧ rf = d.fuse ∧ 0 ≤ rf ∧ rf ≤ 9223372036854775807) ∨ (d.armed = false ∧ rf = -1)
structure RefS where
 A0 : Option Addr
 c0 : Nat
 A1 : Option Addr
 c1 : Nat
 A2 : Option Addr
 c2 : Nat
 A3 : Option Addr
 c3 : Nat
 A4 : Option Addr
 c4 : Nat
 rf : Int
/-- the document's device that is d, out of blocks that are not of F -/
structure RefOk (w : World) (F : List Nat) (s : RefS) (d : Nv.D) (m : Nat) : Prop where
 now : Sees (Value.int .u64) w F s.A0 d.cache
 last : Sees (Value.int .u64) w F s.A1 d.last
 wait : Sees (Value.int .u64) w F s.A2 d.fl
 dirty : Sees Value.bool w F s.A3 d.dirty
 pend : Sees Value.bool w F s.A4 d.pend
 fuse : fuseRel d s.rf
 ok : Nv.Ok d m
theorem RefOk.later {w W : World} {F G : List Nat} {s : RefS} {d : Nv.D} {m : Nat} (h : RefOk w F s d m) (hO : Only G w W) (hG : ∀ i ∈ G, i ∈ F) : RefOk W F s d m :=
 ⟨h.now.later hO hG, h.last.later hO hG, h.wait.later hO hG, h.dirty.later hO hG, h.pend.later hO hG, h.fuse, h.ok⟩
theorem RefOk.killed {w : World} {F : List Nat} {s : RefS} {d : Nv.D} {m : Nat} (h : RefOk w F s d m) : RefOk w F s (Nv.killed d) m :=
 ⟨h.now, h.last, h.wait, h.dirty, h.pend, h.fuse, h.ok.killed⟩
end Go.Proofs.Ytlakbclnilakbaa
end

section
namespace Go.Proofs.Ytlakbclnilakbaa
open Go.RowKit
end Go.Proofs.Ytlakbclnilakbaa
end
