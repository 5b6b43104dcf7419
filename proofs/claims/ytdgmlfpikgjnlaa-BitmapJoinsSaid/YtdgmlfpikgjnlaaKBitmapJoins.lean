/-
  BitmapJoins: for every input the Go function answers true, and its arguments read afterwards as they read before. No condition.
-/
import Derived.Test.YtdgmlfpikgjnlaaKBitmapJoinsb
set_option linter.unusedSimpArgs false
set_option linter.unusedVariables false
section
namespace Go.Proofs.Ytdgmlfpikgjnlaa
open Go.RowKit
set_option maxRecDepth 100000
section
variable {B : Option Addr} {d n : Nat} {l : List Bool} (hln : l.length = n) (hl : n ≤ 255) (w : World) (hS : Sees Value.bool w [] B l)
include hS hl hln
theorem dHasN (x : Int) : Calls Try.prog 39 [.slice B n d, .int .i64 x].toArray w fun e w' => e = .returned (.bool (Bm.has l x)) ∧ Only [] w w' := by
 subst hln; exact dHas w hS hl x
theorem dListN (x t : Int) : Calls Try.prog 41 [.slice B n d, .int .i64 x, .int .i64 t].toArray w fun e w' => ∃ B2 d2, e = .returned (.slice B2 (Bm.list l x t).length d2) ∧ Heap w [] [ownN 1 (.slice B2 (Bm.list l x t).length d2) (Bm.list l x t).length ((Bm.list l x t).map (Value.int .i64)) 3] w' := by
 subst hln; exact dList w hS hl x t
theorem dSetN (x : Int) (v : Bool) : Calls Try.prog 69 [.slice B n d, .int .i64 x, .bool v].toArray w fun e w' => ∃ B2 b2 d2, e = .returned (.slice B2 n d2) ∧ (n ≠ 0 → B2 = some ⟨b2, 0, none⟩) ∧ Heap w [] [vec Value.bool b2 (Bm.put l x v) 4] w' := by
 subst hln; exact dSet w hS hl x v
end
theorem SetOk.put {b : Nat} {A : Option Addr} {c : Nat} {l : List Bool} (h : SetOk b A c l) (x : Int) (v : Bool) : SetOk b A c (Bm.put l x v) :=
 ⟨by rw [show Bm.nw (Bm.put l x v) = Bm.nw l from by unfold Bm.nw; rw [Bm.put_len]]; exact h.row, by rw [Bm.put_len]; exact h.len⟩
theorem SetOk.new {b : Nat} {A : Option Addr} {c : Nat} {l : List Bool} (h : SetOk b A c l) : SetOk b A c (List.replicate l.length false) :=
 ⟨by rw [show Bm.nw (List.replicate l.length false) = Bm.nw l from by unfold Bm.nw; rw [List.length_replicate]]; exact h.row, by rw [List.length_replicate]; exact h.len⟩
/-- both sides hold the same set -/
def Both (n : Nat) (w : World) (v7 v8 : Value) (W : World) : Prop := ∃ (p b : Nat) (A : Option Addr) (c : Nat) (l : List Bool) (B : Option Addr) (b2 d : Nat), SetOk b A c l ∧ l.length = n ∧ (n ≠ 0 → B = some ⟨b2, 0, none⟩) ∧ v7 = pt p ∧ v8 = .slice B n d ∧ Heap w [] [grp (setE p b A c l), vec Value.bool b2 l 4] W
theorem played (lim : Int) (S : Option Addr) (q cq : Nat) (ops : List OpB) (w : World) (hlim : 0 ≤ lim ∧ lim ≤ 255) (hs : ScriptOpB w S ops) (hq : ops.length = q) (hq2 : q ≤ 9223372036854775807) :
  Calls Try.prog 37 [.int .u8 lim, .slice S q cq].toArray w fun e w' => ∃ v7 v8, e = .returned (.tuple [v7, v8, .bool true].toArray) ∧ Both lim.toNat w v7 v8 w' := by
 obtain ⟨n, rfl⟩ := Int.eq_ofNat_of_zero_le hlim.1
 rw [Int.toNat_natCast]
 have hn : n ≤ 255 := by omega
 have H := Heap.nil w
 have hdN := fun w => dNew n w hn
 have hbN := fun w => bNew n w hn
 refine k_in (N := 125) Try.func37 rfl rfl rfl ?_
 refine k_sg ?_
 refine s_run rfl rfl (rap rfl) ?_
 refine s_run rfl rfl (ras rfl) ?_
 refine s_run rfl rfl (rab rfl) ?_
 refine k_nc ?_
 refine k_sg ?_
 refine s_run rfl rfl (rmi rfl) ?_
 refine s_run rfl rfl (r_cv rfl (by kernel_rfl) Try.underlying3 (wI (by omega))) ?_
 refine s_call rfl (hbN _) (ca66 rfl) ?_
 rintro e W1 ⟨p, b, A, c, rfl, hk, H'⟩
 refine ⟨_, rfl, ?_⟩
 have H := H.more (A := [grp _]) (grp_heap H'); clear H'
 refine s_run rfl rfl (rmi rfl) ?_
 refine s_run rfl rfl (r_cv rfl (by kernel_rfl) Try.underlying3 (wI (by omega))) ?_
 refine s_call rfl (hdN _) (ca68 rfl) ?_
 rintro e W1 ⟨b2, rfl, H'⟩
 refine ⟨_, rfl, ?_⟩
 have H := H.more H'; clear H'
 refine s_run rfl rfl (rap rfl) ?_
 refine s_run rfl rfl (ras rfl) ?_
 refine k_nc ?_
 refine k_seq ?_
 refine k_sg ?_
 refine s_run rfl rfl (rai rfl) ?_
 refine k_nc ?_
 refine k_b ?_
 have hB : Both n w (pt p) (.slice (some ⟨b2, 0, none⟩) n n) _ := ⟨p, b, A, c, _, _, b2, n, hk, by simp, fun _ => rfl, rfl, rfl, H.order [1, 0] rfl rfl⟩
 clear H hk
 refine k_loop (fun z f W => ∃ i : Nat, i ≤ q ∧ i ≤ 200 ∧ z = 200 - i ∧ f 0 = .int .u8 n ∧ f 1 = .slice S q cq ∧ f 9 = .int .i64 i ∧ Both n w (f 7) (f 8) W) 200 ⟨0, by omega, by omega, rfl, rfl, rfl, rfl, hB⟩ ?_
 clear hB
 rintro z f W ⟨i, hiq, hi200, rfl, f0, f1, f9, p, b, A, c, l, B, b2, d, hk, hln, hB, f7, f8, H⟩
 obtain ⟨f, rfl⟩ := live5 f0 f1 f7 f8 f9
 clear f0 f1 f7 f8 f9
 by_cases hlt : i < q
 ·by_cases h200 : i < 200
  ·obtain ⟨sb, so, rfl, hrd⟩ := hs.1 (by omega)
   obtain ⟨op, hop⟩ : ∃ op, ops[i]? = some op := ⟨_, List.getElem?_eq_getElem (by omega)⟩
   have hcell := hrd i op hop
   have hok := hs.2 op (List.mem_of_getElem? hop)
   obtain ⟨k, x⟩ := op
   have hx := bounds_i64 hok.w1
   have hkk := bounds_i64 hok.w0
   dsimp only at hx hkk
   have hHas := fun {W : World} (hS : Sees Value.bool W [] B l) => dHasN (d := d) hln hn W hS x
   refine k_seq ?_
   refine k_sg ?_
   refine s_run rfl rfl (rmi rfl) ?_
   refine s_run rfl rfl (rms rfl) ?_
   refine s_run rfl rfl (r_len rfl Try.underlying58) ?_
   refine s_run rfl rfl (r_lssT rfl rfl (by omega)) ?_
   refine s_run rfl rfl (rmb rfl) ?_
   refine s_run rfl (g_on 24 (by kernel_rfl) rfl) (rmi rfl) ?_
   refine s_run rfl (g_on 24 (by kernel_rfl) rfl) (r_lssT rfl rfl (by omega)) ?_
   refine s_run rfl rfl (r_pkT (v := .bool _) rfl rfl) ?_
   refine k_nc ?_
   refine k_t rfl ?_
   refine k_skip ?_
   refine c_norm ?_
   refine k_seq ?_
   refine k_b ?_
   refine k_sg ?_
   refine s_run rfl rfl (rms rfl) ?_
   refine s_run rfl rfl (rmi rfl) ?_
   refine s_run rfl rfl (r_ix (i := i) rfl rfl (by omega) (by omega) Try.underlying58 sz94) ?_
   refine s_run rfl rfl (r_lA (enc := fun v : Value => v) (zs := OpB.cells ⟨k, x⟩) (hcell.later H.only (by simp)) rfl rfl ag94 sz94) ?_
   refine s_al H rfl inf94 ?_
   intro p10 _ H'; clear H; have H := H'; clear H'
   refine s_sw H 0 rfl rfl rfl rfl rfl rfl rfl sz94 ?_
   clear H; intro _ H; simp only [jA, jB, jC, jD, jE, jF, jG, jH, jI, jJ, jK, Nat.reduceAdd] at H
   refine k_nc ?_
   refine k_sg ?_
   refine s_run rfl rfl (rms rfl) ?_
   refine s_run rfl rfl (r_fa0 rfl fo94_1) ?_
   refine s_run rfl rfl (r_lo H 0 rfl rfl rfl ag3) ?_
   refine s_call rfl (hHas (H.seesV 2 rfl (by rw [hln]; exact hB))) (ca39 rfl) ?_
   rintro e W1 ⟨rfl, H'⟩
   refine ⟨_, rfl, ?_⟩
   have H := H.same H'; clear H'
   refine s_run rfl rfl (rab rfl) ?_
   refine k_nc ?_
   refine k_seq ?_
   refine k_sg ?_
   refine s_run rfl rfl (r_fa0 rfl fo94_0) ?_
   refine s_run rfl rfl (r_lo H 0 rfl rfl rfl ag3) ?_
   refine k_nc ?_
   refine k_cut (fun f W => f 0 = .int .u8 n ∧ f 1 = .slice (some ⟨sb, so, none⟩) q cq ∧ f 9 = .int .i64 i ∧ Both n w (f 7) (f 8) W) ?_ ?_
   ·have hlp : ∀ v, (Bm.put l x v).length = n := fun v => by rw [Bm.put_len]; exact hln
    have hSet := fun {W : World} (hS : Sees Value.bool W [] B l) (v : Bool) => dSetN (d := d) hln hn W hS x v
    have hA := fun {W : World} hE => bAdd (p := p) hk W hE x
    have hD := fun {W : World} hE => bDrop (p := p) hk W hE x
    clear hHas
    by_cases k0 : k = 0
    ·by_cases hin : 0 ≤ x ∧ x < l.length
     ·cases hat : Bm.has l x with
      | true =>
       simp only [hat, Bool.not_true, Bool.and_false] at hA
       refine k_b ?_
       refine k_sg ?_
       refine s_run rfl rfl (r_eqlT rfl rfl (by omega)) ?_
       refine s_run rfl rfl (rab rfl) ?_
       refine k_nc ?_
       refine k_t rfl ?_
       refine k_sg ?_
       refine s_run rfl rfl (rms rfl) ?_
       refine s_run rfl rfl (r_fa0 rfl fo94_1) ?_
       refine s_run rfl rfl (r_lo H 0 rfl rfl rfl ag3) ?_
       refine s_call rfl (hSet (H.seesV 2 rfl (by rw [hln]; exact hB)) true) (ca69 rfl) ?_
       rintro e W1 ⟨B2, b3, d2, rfl, hB2, H'⟩
       refine ⟨_, rfl, ?_⟩
       have H := H.more H'; clear H'
       refine s_run rfl rfl (ras rfl) ?_
       refine k_nc ?_
       refine k_sg ?_
       refine s_run rfl rfl (rmp rfl) ?_
       refine s_run rfl rfl (r_fa0 rfl fo94_1) ?_
       refine s_run rfl rfl (r_lo H 1 rfl rfl rfl ag3) ?_
       refine s_call rfl (hA (H.grp_ents 2 rfl)) (ca67 rfl) ?_
       rintro e W1 ⟨rfl, H'⟩
       refine ⟨_, rfl, ?_⟩
       have H := H.grp_at 2 rfl H'; clear H'
       refine s_run rfl rfl (rmb rfl) ?_
       refine s_run rfl rfl (r_notT rfl) ?_
       refine s_run rfl rfl (rmb rfl) ?_
       refine s_off rfl (g_off 52 (by kernel_rfl) rfl rfl) ?_
       refine s_off rfl (g_off 52 (by kernel_rfl) rfl rfl) ?_
       refine s_off rfl (g_off 52 (by kernel_rfl) rfl rfl) ?_
       refine s_off rfl (g_off 52 (by kernel_rfl) rfl rfl) ?_
       refine s_run rfl rfl (r_pkF (v := .bool _) rfl rfl) ?_
       refine s_run rfl rfl (r_bneq rfl rfl rfl Try.underlying4) ?_
       refine k_nc ?_
       refine k_f rfl ?_
       refine k_skip ?_
       refine b_norm ?_
       refine k_met ?_
       exact ⟨rfl, rfl, rfl, p, b, A, c, _, B2, b3, d2, hk.put x true, hlp true, hB2, rfl, rfl, (H.order [2, 0, 1, 3] rfl rfl : Heap w [] ([_, _] ++ [_, _]) _).drops⟩
      | false =>
       simp only [hat, decide_eq_true hin, Bool.not_false, Bool.and_true] at hA
       have hH2 := fun {W : World} {B2 : Option Addr} {d2 : Nat} (hS : Sees Value.bool W [] B2 (Bm.put l x true)) => dHasN (d := d2) (hlp true) hn W hS x
       rw [Bm.has_put l x x true hin, if_pos rfl] at hH2
       refine k_b ?_
       refine k_sg ?_
       refine s_run rfl rfl (r_eqlT rfl rfl (by omega)) ?_
       refine s_run rfl rfl (rab rfl) ?_
       refine k_nc ?_
       refine k_t rfl ?_
       refine k_sg ?_
       refine s_run rfl rfl (rms rfl) ?_
       refine s_run rfl rfl (r_fa0 rfl fo94_1) ?_
       refine s_run rfl rfl (r_lo H 0 rfl rfl rfl ag3) ?_
       refine s_call rfl (hSet (H.seesV 2 rfl (by rw [hln]; exact hB)) true) (ca69 rfl) ?_
       rintro e W1 ⟨B2, b3, d2, rfl, hB2, H'⟩
       refine ⟨_, rfl, ?_⟩
       have H := H.more H'; clear H'
       refine s_run rfl rfl (ras rfl) ?_
       refine k_nc ?_
       refine k_sg ?_
       refine s_run rfl rfl (rmp rfl) ?_
       refine s_run rfl rfl (r_fa0 rfl fo94_1) ?_
       refine s_run rfl rfl (r_lo H 1 rfl rfl rfl ag3) ?_
       refine s_call rfl (hA (H.grp_ents 2 rfl)) (ca67 rfl) ?_
       rintro e W1 ⟨rfl, H'⟩
       refine ⟨_, rfl, ?_⟩
       have H := H.grp_at 2 rfl H'; clear H'
       refine s_run rfl rfl (rmb rfl) ?_
       refine s_run rfl rfl (r_notF rfl) ?_
       refine s_run rfl rfl (rmb rfl) ?_
       refine s_run rfl (g_on 52 (by kernel_rfl) rfl) (rms rfl) ?_
       refine s_run rfl (g_on 52 (by kernel_rfl) rfl) (r_fa0 rfl fo94_1) ?_
       refine s_run rfl (g_on 52 (by kernel_rfl) rfl) (r_lo H 1 rfl rfl rfl ag3) ?_
       refine s_call (g_on 52 (by kernel_rfl) rfl) (hH2 (H.seesV 0 rfl (by rw [hlp]; exact hB2))) (ca39 rfl) ?_
       rintro e W1 ⟨rfl, H'⟩
       refine ⟨_, rfl, ?_⟩
       have H := H.same H'; clear H'
       refine s_run rfl rfl (r_pkT (v := .bool _) rfl rfl) ?_
       refine s_run rfl rfl (r_bneq rfl rfl rfl Try.underlying4) ?_
       refine k_nc ?_
       refine k_f rfl ?_
       refine k_skip ?_
       refine b_norm ?_
       refine k_met ?_
       exact ⟨rfl, rfl, rfl, p, b, A, c, _, B2, b3, d2, hk.put x true, hlp true, hB2, rfl, rfl, (H.order [2, 0, 1, 3] rfl rfl : Heap w [] ([_, _] ++ [_, _]) _).drops⟩
     ·have hat := Bm.has_out hin
      rw [hat]
      simp only [hat, decide_eq_false hin, Bool.false_and] at hA
      have hH2 := fun {W : World} {B2 : Option Addr} {d2 : Nat} (hS : Sees Value.bool W [] B2 (Bm.put l x true)) => dHasN (d := d2) (hlp true) hn W hS x
      rw [show Bm.has (Bm.put l x true) x = false by rw [Bm.put_out true hin]; exact hat] at hH2
      refine k_b ?_
      refine k_sg ?_
      refine s_run rfl rfl (r_eqlT rfl rfl (by omega)) ?_
      refine s_run rfl rfl (rab rfl) ?_
      refine k_nc ?_
      refine k_t rfl ?_
      refine k_sg ?_
      refine s_run rfl rfl (rms rfl) ?_
      refine s_run rfl rfl (r_fa0 rfl fo94_1) ?_
      refine s_run rfl rfl (r_lo H 0 rfl rfl rfl ag3) ?_
      refine s_call rfl (hSet (H.seesV 2 rfl (by rw [hln]; exact hB)) true) (ca69 rfl) ?_
      rintro e W1 ⟨B2, b3, d2, rfl, hB2, H'⟩
      refine ⟨_, rfl, ?_⟩
      have H := H.more H'; clear H'
      refine s_run rfl rfl (ras rfl) ?_
      refine k_nc ?_
      refine k_sg ?_
      refine s_run rfl rfl (rmp rfl) ?_
      refine s_run rfl rfl (r_fa0 rfl fo94_1) ?_
      refine s_run rfl rfl (r_lo H 1 rfl rfl rfl ag3) ?_
      refine s_call rfl (hA (H.grp_ents 2 rfl)) (ca67 rfl) ?_
      rintro e W1 ⟨rfl, H'⟩
      refine ⟨_, rfl, ?_⟩
      have H := H.grp_at 2 rfl H'; clear H'
      refine s_run rfl rfl (rmb rfl) ?_
      refine s_run rfl rfl (r_notF rfl) ?_
      refine s_run rfl rfl (rmb rfl) ?_
      refine s_run rfl (g_on 52 (by kernel_rfl) rfl) (rms rfl) ?_
      refine s_run rfl (g_on 52 (by kernel_rfl) rfl) (r_fa0 rfl fo94_1) ?_
      refine s_run rfl (g_on 52 (by kernel_rfl) rfl) (r_lo H 1 rfl rfl rfl ag3) ?_
      refine s_call (g_on 52 (by kernel_rfl) rfl) (hH2 (H.seesV 0 rfl (by rw [hlp]; exact hB2))) (ca39 rfl) ?_
      rintro e W1 ⟨rfl, H'⟩
      refine ⟨_, rfl, ?_⟩
      have H := H.same H'; clear H'
      refine s_run rfl rfl (r_pkT (v := .bool _) rfl rfl) ?_
      refine s_run rfl rfl (r_bneq rfl rfl rfl Try.underlying4) ?_
      refine k_nc ?_
      refine k_f rfl ?_
      refine k_skip ?_
      refine b_norm ?_
      refine k_met ?_
      exact ⟨rfl, rfl, rfl, p, b, A, c, _, B2, b3, d2, hk.put x true, hlp true, hB2, rfl, rfl, (H.order [2, 0, 1, 3] rfl rfl : Heap w [] ([_, _] ++ [_, _]) _).drops⟩
    ·by_cases k1 : k = 1
     ·refine k_b ?_
      refine k_sg ?_
      refine s_run rfl rfl (r_eqlF rfl rfl (by omega)) ?_
      refine s_run rfl rfl (rab rfl) ?_
      refine k_nc ?_
      refine k_f rfl ?_
      refine k_sg ?_
      refine s_run rfl rfl (r_eqlT rfl rfl (by omega)) ?_
      refine s_run rfl rfl (rab rfl) ?_
      refine k_nc ?_
      refine k_t rfl ?_
      refine k_sg ?_
      refine s_run rfl rfl (rms rfl) ?_
      refine s_run rfl rfl (r_fa0 rfl fo94_1) ?_
      refine s_run rfl rfl (r_lo H 0 rfl rfl rfl ag3) ?_
      refine s_call rfl (hSet (H.seesV 2 rfl (by rw [hln]; exact hB)) false) (ca69 rfl) ?_
      rintro e W1 ⟨B2, b3, d2, rfl, hB2, H'⟩
      refine ⟨_, rfl, ?_⟩
      have H := H.more H'; clear H'
      refine s_run rfl rfl (ras rfl) ?_
      refine k_nc ?_
      refine k_sg ?_
      refine s_run rfl rfl (rmp rfl) ?_
      refine s_run rfl rfl (r_fa0 rfl fo94_1) ?_
      refine s_run rfl rfl (r_lo H 1 rfl rfl rfl ag3) ?_
      refine s_call rfl (hD (H.grp_ents 2 rfl)) (ca70 rfl) ?_
      rintro e W1 ⟨rfl, H'⟩
      refine ⟨_, rfl, ?_⟩
      have H := H.grp_at 2 rfl H'; clear H'
      refine s_run rfl rfl (rmb rfl) ?_
      refine s_run rfl rfl (r_bneq rfl rfl rfl Try.underlying4) ?_
      refine k_nc ?_
      refine k_f rfl ?_
      refine k_skip ?_
      refine b_norm ?_
      refine k_met ?_
      exact ⟨rfl, rfl, rfl, p, b, A, c, _, B2, b3, d2, hk.put x false, hlp false, hB2, rfl, rfl, (H.order [2, 0, 1, 3] rfl rfl : Heap w [] ([_, _] ++ [_, _]) _).drops⟩
     ·by_cases k2 : k = 2
      ·have hC := fun {W : World} hE => bClear (p := p) hk W hE
       have hkn := hk.new
       rw [hln] at hC hkn
       refine k_b ?_
       refine k_sg ?_
       refine s_run rfl rfl (r_eqlF rfl rfl (by omega)) ?_
       refine s_run rfl rfl (rab rfl) ?_
       refine k_nc ?_
       refine k_f rfl ?_
       refine k_sg ?_
       refine s_run rfl rfl (r_eqlF rfl rfl (by omega)) ?_
       refine s_run rfl rfl (rab rfl) ?_
       refine k_nc ?_
       refine k_f rfl ?_
       refine k_sg ?_
       refine s_run rfl rfl (r_eqlT rfl rfl (by omega)) ?_
       refine s_run rfl rfl (rab rfl) ?_
       refine k_nc ?_
       refine k_t rfl ?_
       refine k_sg ?_
       refine s_run rfl rfl (rmi rfl) ?_
       refine s_run rfl rfl (r_cv rfl (by kernel_rfl) Try.underlying3 (wI (by omega))) ?_
       refine s_call rfl (hdN _) (ca68 rfl) ?_
       rintro e W1 ⟨b3, rfl, H'⟩
       refine ⟨_, rfl, ?_⟩
       have H := H.more H'; clear H'
       refine s_run rfl rfl (ras rfl) ?_
       refine k_nc ?_
       refine k_rg ?_
       refine s_run rfl rfl (rmp rfl) ?_
       refine s_call rfl (hC (H.grp_ents 2 rfl)) (ca71 rfl) ?_
       rintro e W1 ⟨rfl, H'⟩
       refine ⟨_, rfl, ?_⟩
       have H := H.grp_at 2 rfl H'; clear H'
       refine k_nil ?_
       refine b_norm ?_
       refine k_met ?_
       exact ⟨rfl, rfl, rfl, p, b, A, c, _, _, b3, n, hkn, by simp, fun _ => rfl, rfl, rfl, (H.order [2, 0, 1, 3] rfl rfl : Heap w [] ([_, _] ++ [_, _]) _).drops⟩
      ·by_cases k3 : k = 3
       ·have hD3 := fun {W : World} hE => bDrop (p := p) (hk.put x true) W hE (bits .xor .i64 x 1)
        refine k_b ?_
        refine k_sg ?_
        refine s_run rfl rfl (r_eqlF rfl rfl (by omega)) ?_
        refine s_run rfl rfl (rab rfl) ?_
        refine k_nc ?_
        refine k_f rfl ?_
        refine k_sg ?_
        refine s_run rfl rfl (r_eqlF rfl rfl (by omega)) ?_
        refine s_run rfl rfl (rab rfl) ?_
        refine k_nc ?_
        refine k_f rfl ?_
        refine k_sg ?_
        refine s_run rfl rfl (r_eqlF rfl rfl (by omega)) ?_
        refine s_run rfl rfl (rab rfl) ?_
        refine k_nc ?_
        refine k_f rfl ?_
        refine k_sg ?_
        refine s_run rfl rfl (r_eqlT rfl rfl (by omega)) ?_
        refine s_run rfl rfl (rab rfl) ?_
        refine k_nc ?_
        refine k_t rfl ?_
        refine k_sg ?_
        refine s_run rfl rfl (rmp rfl) ?_
        refine s_call rfl (bClone hk _ (H.grp_ents 1 rfl)) (ca72 rfl) ?_
        rintro e W1 ⟨p', b', A', c', rfl, hk', H'⟩
        refine ⟨_, rfl, ?_⟩
        have H := H.more (A := [grp _]) (grp_heap H'); clear H'
        refine s_run rfl rfl (rap rfl) ?_
        refine k_nc ?_
        refine k_seq ?_
        refine k_sg ?_
        refine s_run rfl rfl (rmp rfl) ?_
        refine s_run rfl rfl (r_ptnilF rfl rfl Try.underlying59) ?_
        refine k_nc ?_
        refine k_f rfl ?_
        refine k_skip ?_
        refine c_norm ?_
        refine k_sg ?_
        refine s_run rfl rfl (rmp rfl) ?_
        refine s_run rfl rfl (r_fa0 rfl fo94_1) ?_
        refine s_run rfl rfl (r_lo H 1 rfl rfl rfl ag3) ?_
        refine s_call rfl (hA (H.grp_ents 2 rfl)) (ca67 rfl) ?_
        rintro e W1 ⟨rfl, H'⟩
        refine ⟨_, rfl, ?_⟩
        have H := H.grp_at 2 rfl H'; clear H'
        refine k_nc ?_
        refine k_sg ?_
        refine s_run rfl rfl (rmp rfl) ?_
        refine s_run rfl rfl (r_fa0 rfl fo94_1) ?_
        refine s_run rfl rfl (r_lo H 1 rfl rfl rfl ag3) ?_
        refine s_run rfl rfl (r_xor rfl rfl rfl) ?_
        refine s_call rfl (hD3 (H.grp_ents 2 rfl)) (ca70 rfl) ?_
        rintro e W1 ⟨rfl, H'⟩
        refine ⟨_, rfl, ?_⟩
        have H := H.grp_at 2 rfl H'; clear H'
        refine k_nc ?_
        refine k_rg ?_
        refine s_run rfl rfl (rmp rfl) ?_
        refine s_run rfl rfl (rap rfl) ?_
        refine k_nil ?_
        refine b_norm ?_
        refine k_met ?_
        exact ⟨rfl, rfl, rfl, p', b', A', c', _, B, b2, d, hk', hln, hB, rfl, rfl, (H.order [0, 3, 1, 2] rfl rfl : Heap w [] ([_, _] ++ [_, _]) _).drops⟩
       ·refine k_b ?_
        refine k_sg ?_
        refine s_run rfl rfl (r_eqlF rfl rfl (by omega)) ?_
        refine s_run rfl rfl (rab rfl) ?_
        refine k_nc ?_
        refine k_f rfl ?_
        refine k_sg ?_
        refine s_run rfl rfl (r_eqlF rfl rfl (by omega)) ?_
        refine s_run rfl rfl (rab rfl) ?_
        refine k_nc ?_
        refine k_f rfl ?_
        refine k_sg ?_
        refine s_run rfl rfl (r_eqlF rfl rfl (by omega)) ?_
        refine s_run rfl rfl (rab rfl) ?_
        refine k_nc ?_
        refine k_f rfl ?_
        refine k_sg ?_
        refine s_run rfl rfl (r_eqlF rfl rfl (by omega)) ?_
        refine s_run rfl rfl (rab rfl) ?_
        refine k_nc ?_
        refine k_f rfl ?_
        refine k_skip ?_
        refine b_norm ?_
        refine k_met ?_
        exact ⟨rfl, rfl, rfl, p, b, A, c, _, B, b2, d, hk, hln, hB, rfl, rfl, (H.order [1, 2, 0] rfl rfl : Heap w [] ([_, _] ++ [_]) _).drops⟩
   ·clear H hk hln hB hHas hcell hok hx hkk
    rintro f W ⟨f0, f1, f9, p, b, A, c, l, B, b2, d, hk, hln, hB, f7, f8, H⟩
    obtain ⟨f, rfl⟩ := live5 f0 f1 f7 f8 f9
    clear f0 f1 f7 f8 f9
    have hcnt := Bm.cnt_eq l
    have hel := Bm.elems_len l
    have hli := Bm.list_all l
    rw [hln] at hli
    have hbd : Ints .i64 (Bm.elems l) := fun y hy => by
     rw [← hli, ← Bm.listTo_big l 0 n l.length (Nat.le_refl _)] at hy
     have := Bm.listTo_mem l 0 n _ hy
     exact wf_i64 (by omega)
    have hDL := fun {W : World} (hS : Sees Value.bool W [] B l) => dListN (d := d) hln hn W hS 0 n
    rw [hli] at hDL
    refine c_norm ?_
    refine k_sg ?_
    refine s_run rfl rfl (rms rfl) ?_
    refine s_run rfl rfl (rms rfl) ?_
    refine s_run rfl rfl (r_len rfl Try.underlying60) ?_
    refine s_call rfl (hDL (H.seesV 1 rfl (by rw [hln]; exact hB))) (ca41 rfl) ?_
    rintro e W1 ⟨B3, d3, rfl, H'⟩
    refine ⟨_, rfl, ?_⟩
    have H := H.more H'; clear H'
    refine s_run rfl rfl (ras rfl) ?_
    refine k_nc ?_
    refine k_sg ?_
    refine s_run rfl rfl (rmp rfl) ?_
    refine s_call rfl (bLen _ (H.grp_ents 1 rfl)) (ca73 rfl) ?_
    rintro e W1 ⟨rfl, H'⟩
    refine ⟨_, rfl, ?_⟩
    have H := H.same H'; clear H'
    refine s_run rfl rfl (rms rfl) ?_
    refine s_run rfl rfl (r_len rfl Try.underlying22) ?_
    refine s_run rfl rfl (r_neqF rfl rfl (by omega)) ?_
    refine s_run rfl rfl (rmb rfl) ?_
    refine s_run rfl (g_on 109 (by kernel_rfl) rfl) (rmp rfl) ?_
    refine s_call (g_on 109 (by kernel_rfl) rfl) (bList hk _ (H.grp_ents 1 rfl)) (ca74 rfl) ?_
    rintro e W1 ⟨B4, d4, rfl, H'⟩
    refine ⟨_, rfl, ?_⟩
    have H := H.more H'; clear H'
    refine s_run rfl (g_on 109 (by kernel_rfl) rfl) (rms rfl) ?_
    refine s_call (g_on 109 (by kernel_rfl) rfl) (ints_sees _ _ _ _ _ _ (Bm.elems l) (Bm.elems l) _ (H.own_sees 0 rfl) (H.own_sees 1 rfl) rfl rfl hbd hbd (by unfold maxLen; omega) (by unfold maxLen; omega)) (ca33 rfl) ?_
    rintro e W1 ⟨rfl, H'⟩
    refine ⟨_, rfl, ?_⟩
    have H := H.same H'; clear H'; rw [eqB_yes _ _ rfl]
    refine s_run rfl (g_on 109 (by kernel_rfl) rfl) (r_notT rfl) ?_
    refine s_run rfl rfl (r_pkF (v := .bool _) rfl rfl) ?_
    refine k_nc ?_
    refine k_f rfl ?_
    refine k_skip ?_
    refine b_norm ?_
    refine c_norm ?_
    refine k_rg ?_
    refine s_run rfl rfl (rmi rfl) ?_
    refine s_run rfl rfl (r_add rfl rfl (wI (by omega))) ?_
    refine s_run rfl rfl (rai rfl) ?_
    refine k_nil ?_
    refine c_round ?_
    refine ⟨_, _, ?_, rfl, i + 1, by omega, by omega, rfl, rfl, rfl, rfl, p, b, A, c, l, B, b2, d, hk, hln, hB, rfl, rfl, (H.order [2, 3, 0, 1] rfl rfl : Heap w [] ([_, _] ++ [_, _]) _).drops⟩
    omega
  ·refine k_seq ?_
   refine k_sg ?_
   refine s_run rfl rfl (rmi rfl) ?_
   refine s_run rfl rfl (rms rfl) ?_
   refine s_run rfl rfl (r_len rfl Try.underlying58) ?_
   refine s_run rfl rfl (r_lssT rfl rfl (by omega)) ?_
   refine s_run rfl rfl (rmb rfl) ?_
   refine s_run rfl (g_on 24 (by kernel_rfl) rfl) (rmi rfl) ?_
   refine s_run rfl (g_on 24 (by kernel_rfl) rfl) (r_lssF rfl rfl (by omega)) ?_
   refine s_run rfl rfl (r_pkT (v := .bool _) rfl rfl) ?_
   refine k_nc ?_
   refine k_f rfl ?_
   refine k_exit ?_
   refine c_exit ?_
   refine c_exit ?_
   refine b_hit ?_
   refine c_norm ?_
   refine k_sg ?_
   refine s_run rfl rfl (rmp rfl) ?_
   refine s_run rfl rfl (rms rfl) ?_
   refine s_run rfl rfl (rmp rfl) ?_
   refine s_call rfl (bLimit _ (H.grp_ents 0 rfl)) (ca75 rfl) ?_
   rintro e W1 ⟨rfl, H'⟩
   refine ⟨_, rfl, ?_⟩
   have H := H.same H'; clear H'
   refine s_run rfl rfl (rmi rfl) ?_
   refine s_run rfl rfl (r_cv rfl (by kernel_rfl) Try.underlying3 (wI (by omega))) ?_
   refine s_run rfl rfl (r_eqlT rfl rfl (by omega)) ?_
   refine s_run rfl rfl (rap rfl) ?_
   refine s_run rfl rfl (ras rfl) ?_
   refine s_run rfl rfl (rab rfl) ?_
   refine k_nc ?_
   refine k_ret ?_
   refine fin3r (v := .pointer _) (v2 := .slice _ _ _) (v3 := .bool _) rfl rfl rfl rfl ?_
   exact ⟨_, _, rfl, p, b, A, c, l, B, b2, d, hk, hln, hB, rfl, rfl, H⟩
 ·refine k_seq ?_
  refine k_sg ?_
  refine s_run rfl rfl (rmi rfl) ?_
  refine s_run rfl rfl (rms rfl) ?_
  refine s_run rfl rfl (r_len rfl Try.underlying58) ?_
  refine s_run rfl rfl (r_lssF rfl rfl (by omega)) ?_
  refine s_run rfl rfl (rmb rfl) ?_
  refine s_off rfl (g_off 24 (by kernel_rfl) rfl rfl) ?_
  refine s_off rfl (g_off 24 (by kernel_rfl) rfl rfl) ?_
  refine s_run rfl rfl (r_pkF (v := .bool _) rfl rfl) ?_
  refine k_nc ?_
  refine k_f rfl ?_
  refine k_exit ?_
  refine c_exit ?_
  refine c_exit ?_
  refine b_hit ?_
  refine c_norm ?_
  refine k_sg ?_
  refine s_run rfl rfl (rmp rfl) ?_
  refine s_run rfl rfl (rms rfl) ?_
  refine s_run rfl rfl (rmp rfl) ?_
  refine s_call rfl (bLimit _ (H.grp_ents 0 rfl)) (ca75 rfl) ?_
  rintro e W1 ⟨rfl, H'⟩
  refine ⟨_, rfl, ?_⟩
  have H := H.same H'; clear H'
  refine s_run rfl rfl (rmi rfl) ?_
  refine s_run rfl rfl (r_cv rfl (by kernel_rfl) Try.underlying3 (wI (by omega))) ?_
  refine s_run rfl rfl (r_eqlT rfl rfl (by omega)) ?_
  refine s_run rfl rfl (rap rfl) ?_
  refine s_run rfl rfl (ras rfl) ?_
  refine s_run rfl rfl (rab rfl) ?_
  refine k_nc ?_
  refine k_ret ?_
  refine fin3r (v := .pointer _) (v2 := .slice _ _ _) (v3 := .bool _) rfl rfl rfl rfl ?_
  exact ⟨_, _, rfl, p, b, A, c, l, B, b2, d, hk, hln, hB, rfl, rfl, H⟩
end Go.Proofs.Ytdgmlfpikgjnlaa
end

section
namespace Go.Proofs.Ytdgmlfpikgjnlaa
open Go.RowKit
set_option maxRecDepth 100000
end Go.Proofs.Ytdgmlfpikgjnlaa
end

section
namespace Go.Proofs.Ytdgmlfpikgjnlaa.Bm
open Go.RowKit
theorem elem_bd {l : List Bool} {x : Int} (h : x ∈ elems l) : 0 ≤ x ∧ x < l.length := by
 have h2 : x ∈ listTo l 0 l.length l.length := by
  rw [listTo_big l 0 _ _ (Nat.le_refl _), list_all]; exact h
 have := listTo_mem _ _ _ _ h2
 omega
/-! one within another one -/
theorem elem_iff {l : List Bool} {i : Nat} : (i : Int) ∈ elems l ↔ at_ l i = true := by
 unfold elems upto
 constructor
 ·intro h
  obtain ⟨j, hj, e⟩ := List.mem_map.1 h
  have : j = i := by omega
  subst this
  exact (List.mem_filter.1 hj).2
 ·intro h
  exact List.mem_map.2 ⟨i, List.mem_filter.2 ⟨List.mem_range.2 (at_lt h), h⟩, rfl⟩
theorem within_iff (l m : List Bool) (hl : l.length ≤ 256) : (∀ x ∈ elems l, has m x = true) ↔ ∀ i, i < 256 → at_ l i = true → at_ m i = true := by
 constructor
 ·intro h i _ hi
  have := h i (elem_iff.2 hi)
  rwa [has_in] at this
 ·intro h x hx
  obtain ⟨h0, h1⟩ := elem_bd hx
  obtain ⟨i, rfl⟩ := Int.eq_ofNat_of_zero_le h0
  rw [has_in]
  exact h i (by omega) (elem_iff.1 hx)
theorem upto_len_succ (l : List Bool) (k : Nat) : (upto l (k + 1)).length = (upto l k).length + if at_ l k then 1 else 0 := by
 rw [upto_succ, List.length_append]; split <;> simp
theorem upto_le (l m : List Bool) (h : ∀ i, at_ l i = true → at_ m i = true) (k : Nat) : (upto l k).length ≤ (upto m k).length ∧ ((∃ j, j < k ∧ at_ m j = true ∧ at_ l j = false) → (upto l k).length < (upto m k).length) := by
 induction k with
 | zero => exact ⟨Nat.le_refl _, by rintro ⟨j, hj, _⟩; omega⟩
 | succ k ih =>
  rw [upto_len_succ, upto_len_succ]
  have hk := h k
  cases h1 : at_ l k
  ·cases h2 : at_ m k
   ·refine ⟨by simpa using ih.1, ?_⟩
    rintro ⟨j, hj, hm, hn⟩
    by_cases e : j = k
    ·subst e; rw [h2] at hm; cases hm
    ·have := ih.2 ⟨j, by omega, hm, hn⟩; simpa using this
   ·refine ⟨by simp; have := ih.1; omega, fun _ => by simp; have := ih.1; omega⟩
  ·rw [hk h1]
   refine ⟨by simpa using ih.1, ?_⟩
   rintro ⟨j, hj, hm, hn⟩
   by_cases e : j = k
   ·subst e; rw [h1] at hn; cases hn
   ·have := ih.2 ⟨j, by omega, hm, hn⟩; simpa using this
theorem same_iff (l m : List Bool) (hl : l.length ≤ 256) (hm : m.length ≤ 256) : (cnt l = cnt m ∧ ∀ x ∈ elems l, has m x = true) ↔ ∀ i, i < 256 → at_ l i = at_ m i := by
 have ec : ∀ l : List Bool, l.length ≤ 256 → cnt l = (upto l 256).length := fun l h => by rw [cnt_eq, upto_big l 256 h]
 rw [within_iff l m hl]
 constructor
 ·rintro ⟨h1, h2⟩ i hi
  have h3 : ∀ i, at_ l i = true → at_ m i = true := fun i h => h2 i (by have := at_lt h; omega) h
  cases h4 : at_ l i
  ·cases h5 : at_ m i
   ·rfl
   ·have := (upto_le l m h3 256).2 ⟨i, hi, h5, h4⟩
    rw [ec l hl, ec m hm] at h1; omega
  ·exact (h3 i h4).symm
 ·intro h
  have e : upto l 256 = upto m 256 := by
   unfold upto
   congr 1
   apply List.filter_congr
   intro i hi
   exact h i (by simpa using hi)
  exact ⟨by rw [ec l hl, ec m hm, e], fun i hi h1 => by rw [← h i hi]; exact h1⟩
theorem has_puts (xs : List Int) (i : Nat) : ∀ l : List Bool, at_ (puts l xs) i = (at_ l i || (decide ((i : Int) ∈ xs) && decide (i < l.length))) := by
 induction xs with
 | nil => intro l; simp [puts]
 | cons x xs ih =>
  intro l
  show at_ (puts (put l x true) xs) i = _
  rw [ih, put_len]
  by_cases hx : 0 ≤ x ∧ x < l.length
  ·have := has_put l x i true hx
   rw [has_in, has_in] at this
   rw [this]
   by_cases e : x = i
   ·subst e
    have : i < l.length := by omega
    simp [this]
   ·have e' : ¬ (i : Int) = x := fun h => e h.symm
    simp [e, e']
  ·rw [put_out true hx]
   by_cases e : (i : Int) = x
   ·subst e
    have : ¬ i < l.length := by omega
    simp [this]
   ·simp [e]
end Go.Proofs.Ytdgmlfpikgjnlaa.Bm
end

section
namespace Go.Proofs.Ytdgmlfpikgjnlaa
open Go.RowKit
set_option maxRecDepth 100000
set_option maxHeartbeats 2000000
end Go.Proofs.Ytdgmlfpikgjnlaa
end

section
namespace Go.Proofs.Ytdgmlfpikgjnlaa
open Go.RowKit
set_option maxRecDepth 100000
set_option maxHeartbeats 2000000
theorem dHasI {B : Option Addr} {d n : Nat} {l : List Bool} (hln : l.length = n) (hl : n ≤ 255) (w : World) (hS : Sees Value.bool w [] B l) (i : Nat) : Calls Try.prog 39 [.slice B n d, .int .i64 i].toArray w fun e w' => e = .returned (.bool (Bm.at_ l i)) ∧ Only [] w w' := by
 have := dHasN (d := d) hln hl w hS i
 rwa [Bm.has_in] at this
theorem bHasI {p b : Nat} {A : Option Addr} {c : Nat} {l : List Bool} (hk : SetOk b A c l) (w : World) (hE : Ents (setE p b A c l) w) (i : Nat) : Calls Try.prog 38 [pt p, .int .i64 i].toArray w fun e w' => e = .returned (.bool (Bm.at_ l i)) ∧ Only [] w w' := by
 have := bHas hk w hE i
 rwa [show (decide ((0 : Int) ≤ i) && Bm.at_ l (i : Int).toNat) = Bm.at_ l i by simp] at this
def wiB (l m : List Bool) (k : Nat) : Bool := decide (∀ i, i < k → Bm.at_ l i = true → Bm.at_ m i = true)
def saB (l m : List Bool) (k : Nat) : Bool := decide (∀ i, i < k → Bm.at_ l i = Bm.at_ m i)
theorem wiB_succ (l m : List Bool) (k : Nat) : wiB l m (k + 1) = (wiB l m k && (!Bm.at_ l k || Bm.at_ m k)) := by
 unfold wiB
 rw [Bool.eq_iff_iff]
 simp only [decide_eq_true_eq, Bool.and_eq_true, Bool.or_eq_true, Bool.not_eq_true']
 constructor
 ·intro h
  refine ⟨fun i hi => h i (by omega), ?_⟩
  cases hl : Bm.at_ l k
  ·exact .inl rfl
  ·exact .inr (h k (by omega) hl)
 ·rintro ⟨h1, h2⟩ i hi hl
  by_cases e : i = k
  ·subst e
   rcases h2 with h2 | h2
   ·rw [hl] at h2; cases h2
   ·exact h2
  ·exact h1 i (by omega) hl
theorem saB_succ (l m : List Bool) (k : Nat) : saB l m (k + 1) = (saB l m k && (Bm.at_ l k == Bm.at_ m k)) := by
 unfold saB
 rw [Bool.eq_iff_iff]
 simp only [decide_eq_true_eq, Bool.and_eq_true, beq_iff_eq]
 constructor
 ·intro h
  exact ⟨fun i hi => h i (by omega), h k (by omega)⟩
 ·rintro ⟨h1, h2⟩ i hi
  by_cases e : i = k
  ·subst e; exact h2
  ·exact h1 i (by omega)
section
variable {P : Program} {n : Sz} {f : Nat → Value} {W : World} {dst : Option Tmp} {ty : TypeId} {pos : String} {af : Array Edge} {g : Option (Nat × Bool)} {x y : Operand} {t t2 : TypeId}
theorem r_beq {a b : Bool} (hx : ev n f x = .bool a) (hy : ev n f y = .bool b) (ht : P.underlying t = some .bool) : (execOp (ev n f) ⟨dst, .binOp .eql t x y t2, ty, pos, af, g⟩).run P W = .ok (.value (.bool (a == b))) W := by
 have h : ∀ d : Nat, (Op.equalIn (d + 1) t (.bool a) (.bool b)).run P W = .ok (a == b) W := fun d => by
  simp [Op.equalIn, run_underlying ht]
 have h2 : (binOp .eql t (.bool a) (.bool b)).run P W = .ok (.bool (a == b)) W := by
  simp only [binOp]
  simp [Op.equal, Op.maxDepth, h 9999]
 have h3 : (eqGuard .eql t x y (.bool a) (.bool b)).run P W = .ok () W := by simp [eqGuard]
 simp only [execOp, hx, hy, Sem.run_bind, h3, h2, Result.andThen_ok]; rfl
end
theorem walk_BitmapJoins (la lb : Int) (x y : Option Addr × Nat × Nat × List OpB) (w : World) (w0 : (Lit.int .u8 la).wf = true) (w1 : (Lit.int .u8 lb).wf = true) (hx : ScriptOpB w x.1 x.2.2.2 ∧ x.2.2.2.length = x.2.1 ∧ x.2.1 ≤ 9223372036854775807) (hy : ScriptOpB w y.1 y.2.2.2 ∧ y.2.2.2.length = y.2.1 ∧ y.2.1 ≤ 9223372036854775807) :
  Calls Try.prog 12 [.agg [.int .u8 la, .int .u8 lb].toArray, .slice x.1 x.2.1 x.2.2.1, .slice y.1 y.2.1 y.2.2.1].toArray w fun e w' => e = .returned (.bool true) ∧ Below w.heap.size w w' := by
 obtain ⟨S, q, cq, ops⟩ := x
 obtain ⟨S2, q2, cq2, ops2⟩ := y
 obtain ⟨hs, hl, hq⟩ := hx
 obtain ⟨hs2, hl2, hq2⟩ := hy
 dsimp only at hs hl hq hs2 hl2 hq2 ⊢
 have g0 := bounds_u8 w0
 have g1 := bounds_u8 w1
 have H := Heap.nil w
 have hP := fun W (h : Only [] w W) => played la S q cq ops W g0 (hs.later h) hl hq
 have hP2 := fun W (h : Only [] w W) => played lb S2 q2 cq2 ops2 W g1 (hs2.later h) hl2 hq2
 obtain ⟨n, hn0⟩ : ∃ n, la.toNat = n := ⟨_, rfl⟩
 obtain ⟨m, hm0⟩ : ∃ m, lb.toNat = m := ⟨_, rfl⟩
 have hn : n ≤ 255 := by omega
 have hm : m ≤ 255 := by omega
 rw [hn0] at hP
 rw [hm0] at hP2
 refine k_in (N := 117) Try.func12 rfl rfl rfl ?_
 refine k_sg ?_
 refine s_box H rfl rfl ?_
 intro p3 _ H'; clear H; have H := H'; clear H'
 refine s_run rfl rfl (rab rfl) ?_
 refine k_nc ?_
 refine k_seq ?_
 refine k_sg ?_
 refine s_call rfl (awake13 _) (ca36 rfl) ?_
 rintro e W1 ⟨rfl, H'⟩
 refine ⟨_, rfl, ?_⟩
 have H := H.same H'; clear H'
 refine s_run rfl rfl (r_notT rfl) ?_
 refine k_nc ?_
 refine k_f rfl ?_
 refine k_skip ?_
 refine c_norm ?_
 refine k_seq ?_
 refine k_q mixed (by kernel_rfl) H ?_
 refine q_run rfl rfl (fun _ H => r_ia0 (i := 0) rfl rfl (by omega) (by omega) Try.underlying72 sz5) ?_
 refine q_run rfl rfl (fun _ H => r_lo H 0 rfl rfl rfl ag5) ?_
 refine q_run rfl rfl (fun _ H => r_ia0 (i := 1) rfl rfl (by omega) (by omega) Try.underlying72 sz5) ?_
 refine q_run rfl rfl (fun _ H => r_lo H 0 rfl rfl rfl ag5) ?_
 refine q_run rfl rfl (fun _ H => r_as (v := .int _ _) rfl) ?_
 refine q_run rfl rfl (fun _ H => r_as (v := .int _ _) rfl) ?_
 refine q_nil ?_
 intro _ H'; clear H; have H := H'; clear H'
 refine c_norm ?_
 refine k_sg ?_
 refine s_run rfl rfl (rmi rfl) ?_
 refine s_run rfl rfl (rms rfl) ?_
 refine s_call rfl (hP _ H.only) (ca37 rfl) ?_
 rintro e W1 ⟨v7, v8, rfl, p, b, A, c, l, B, b2, d, hk, hln, hB, rfl, rfl, H'⟩
 refine ⟨_, rfl, ?_⟩
 have H := H.more H'; clear H'
 refine s_run rfl rfl (rmt rfl) ?_
 refine s_run rfl rfl (r_ext (v := .pointer _) rfl rfl) ?_
 refine s_run rfl rfl (r_ext (v := .slice _ _ _) rfl rfl) ?_
 refine s_run rfl rfl (r_ext (v := .bool _) rfl rfl) ?_
 refine s_run rfl rfl (rap rfl) ?_
 refine s_run rfl rfl (ras rfl) ?_
 refine s_run rfl rfl (rab rfl) ?_
 refine k_nc ?_
 refine k_sg ?_
 refine s_run rfl rfl (rmi rfl) ?_
 refine s_run rfl rfl (rms rfl) ?_
 refine s_call rfl (hP2 _ H.only) (ca37 rfl) ?_
 rintro e W1 ⟨v9, v10, rfl, p', b', A', c', l', B', b2', d', hk', hln', hB', rfl, rfl, H'⟩
 refine ⟨_, rfl, ?_⟩
 have H := H.more H'; clear H'
 refine s_run rfl rfl (rmt rfl) ?_
 refine s_run rfl rfl (r_ext (v := .pointer _) rfl rfl) ?_
 refine s_run rfl rfl (r_ext (v := .slice _ _ _) rfl rfl) ?_
 refine s_run rfl rfl (r_ext (v := .bool _) rfl rfl) ?_
 refine s_run rfl rfl (rap rfl) ?_
 refine s_run rfl rfl (ras rfl) ?_
 refine s_run rfl rfl (rab rfl) ?_
 refine k_nc ?_
 refine k_seq ?_
 refine k_sg ?_
 refine s_run rfl rfl (rmb rfl) ?_
 refine s_run rfl rfl (r_notT rfl) ?_
 refine s_run rfl rfl (rmb rfl) ?_
 refine s_run rfl (g_on 43 (by kernel_rfl) rfl) (rmb rfl) ?_
 refine s_run rfl (g_on 43 (by kernel_rfl) rfl) (r_notT rfl) ?_
 refine s_run rfl rfl (r_pkF (v := .bool _) rfl rfl) ?_
 refine k_nc ?_
 refine k_f rfl ?_
 refine k_skip ?_
 refine c_norm ?_
 refine k_sg ?_
 refine s_run rfl rfl (rab rfl) ?_
 refine s_run rfl rfl (rab rfl) ?_
 refine k_nc ?_
 refine k_seq ?_
 refine k_sg ?_
 refine s_run rfl rfl (rai rfl) ?_
 refine k_nc ?_
 refine k_b ?_
 clear hP hP2 hs hs2
 replace H : Heap w [] [grp (setE p b A c l), grp (setE p' b' A' c' l'), vec Value.bool b2 l 4, vec Value.bool b2' l' 4] _ := (H.order [2, 0, 3, 1, 4] rfl rfl : Heap w [] ([_, _, _, _] ++ [_]) _).drops
 refine k_loop (fun z f W => ∃ i : Nat, i ≤ 256 ∧ z = 256 - i ∧ f 7 = .int .u8 la ∧ f 9 = pt p ∧ f 10 = .slice B n d ∧ f 12 = pt p' ∧ f 13 = .slice B' m d' ∧ f 15 = .bool (wiB l l' i) ∧ f 16 = .bool (saB l l' i) ∧ f 17 = .int .i64 i ∧ Heap w [] [grp (setE p b A c l), grp (setE p' b' A' c' l'), vec Value.bool b2 l 4, vec Value.bool b2' l' 4] W) 256 ⟨0, by omega, rfl, rfl, rfl, rfl, rfl, rfl, by simp only [wiB, Nat.not_lt_zero, false_implies, implies_true, decide_true]; rfl, by simp only [saB, Nat.not_lt_zero, false_implies, implies_true, decide_true]; rfl, rfl, H⟩ ?_
 clear H
 rintro z f W ⟨i, hi, rfl, f7, f9, f10, f12, f13, f15, f16, f17, H⟩
 obtain ⟨f, rfl⟩ := lv8 f7 f9 f10 f12 f13 f15 f16 f17
 clear f7 f9 f10 f12 f13 f15 f16 f17
 have hD1 := fun {W : World} (hS : Sees Value.bool W [] B l) (i : Nat) => dHasI (d := d) hln hn W hS i
 have hD2 := fun {W : World} (hS : Sees Value.bool W [] B' l') (i : Nat) => dHasI (d := d') hln' hm W hS i
 by_cases hlt : i < 256
 ·have hw1 := wiB_succ l l' i
  have hs1 := saB_succ l l' i
  refine k_seq ?_
  refine k_sg ?_
  refine s_run rfl rfl (rmi rfl) ?_
  refine s_run rfl rfl (r_lssT rfl rfl (by omega)) ?_
  refine k_nc ?_
  refine k_t rfl ?_
  refine k_skip ?_
  refine c_norm ?_
  refine k_seq ?_
  refine k_b ?_
  refine k_sg ?_
  refine s_run rfl rfl (rms rfl) ?_
  refine s_run rfl rfl (rmi rfl) ?_
  refine s_call rfl (hD1 (H.seesV 2 rfl (by rw [hln]; exact hB)) i) (ca39 rfl) ?_
  rintro e W1 ⟨rfl, H'⟩
  refine ⟨_, rfl, ?_⟩
  have H := H.same H'; clear H'
  refine s_run rfl rfl (rms rfl) ?_
  refine s_run rfl rfl (rmi rfl) ?_
  refine s_call rfl (hD2 (H.seesV 3 rfl (by rw [hln']; exact hB')) i) (ca39 rfl) ?_
  rintro e W1 ⟨rfl, H'⟩
  refine ⟨_, rfl, ?_⟩
  have H := H.same H'; clear H'
  refine s_run rfl rfl (rab rfl) ?_
  refine s_run rfl rfl (rab rfl) ?_
  refine k_nc ?_
  refine k_seq ?_
  generalize wiB l l' i = wi at *
  generalize saB l l' i = sa at *
  generalize Bm.at_ l i = h1 at *
  generalize Bm.at_ l' i = h2 at *
  cases wi with
  | false =>
   cases h1 with
   | false =>
    cases h2 with
    | false =>
     cases sa with
     | false =>
      refine k_rg ?_
      refine s_run rfl rfl (rmb rfl) ?_
      refine s_run rfl rfl (rmb rfl) ?_
      refine s_off rfl (g_off 58 (by kernel_rfl) rfl rfl) ?_
      refine s_off rfl (g_off 58 (by kernel_rfl) rfl rfl) ?_
      refine s_off rfl (g_off 58 (by kernel_rfl) rfl rfl) ?_
      refine s_off rfl (g_un 61 (by kernel_rfl) rfl) ?_
      refine s_off rfl (g_off 58 (by kernel_rfl) rfl rfl) ?_
      refine s_run rfl rfl (r_pkF (v := .bool _) rfl rfl) ?_
      refine s_run rfl rfl (rab rfl) ?_
      refine k_nc ?_
      refine k_rg ?_
      refine s_run rfl rfl (rmb rfl) ?_
      refine s_run rfl rfl (rmb rfl) ?_
      refine s_off rfl (g_off 66 (by kernel_rfl) rfl rfl) ?_
      refine s_off rfl (g_off 66 (by kernel_rfl) rfl rfl) ?_
      refine s_off rfl (g_off 66 (by kernel_rfl) rfl rfl) ?_
      refine s_run rfl rfl (r_pkF (v := .bool _) rfl rfl) ?_
      refine s_run rfl rfl (rab rfl) ?_
      refine k_nil ?_
      refine b_norm ?_
      refine c_norm ?_
      refine k_rg ?_
      refine s_run rfl rfl (rmi rfl) ?_
      refine s_run rfl rfl (r_add rfl rfl (wI (by omega))) ?_
      refine s_run rfl rfl (rai rfl) ?_
      refine k_nil ?_
      refine c_round ?_
      refine ⟨_, _, ?_, rfl, i + 1, by omega, rfl, rfl, rfl, rfl, rfl, rfl, ?_, ?_, rfl, H⟩
      ·omega
      ·rw [hw1]; rfl
      ·rw [hs1]; rfl
     | true =>
      refine k_rg ?_
      refine s_run rfl rfl (rmb rfl) ?_
      refine s_run rfl rfl (rmb rfl) ?_
      refine s_off rfl (g_off 58 (by kernel_rfl) rfl rfl) ?_
      refine s_off rfl (g_off 58 (by kernel_rfl) rfl rfl) ?_
      refine s_off rfl (g_off 58 (by kernel_rfl) rfl rfl) ?_
      refine s_off rfl (g_un 61 (by kernel_rfl) rfl) ?_
      refine s_off rfl (g_off 58 (by kernel_rfl) rfl rfl) ?_
      refine s_run rfl rfl (r_pkF (v := .bool _) rfl rfl) ?_
      refine s_run rfl rfl (rab rfl) ?_
      refine k_nc ?_
      refine k_rg ?_
      refine s_run rfl rfl (rmb rfl) ?_
      refine s_run rfl rfl (rmb rfl) ?_
      refine s_run rfl (g_on 66 (by kernel_rfl) rfl) (rmb rfl) ?_
      refine s_run rfl (g_on 66 (by kernel_rfl) rfl) (rmb rfl) ?_
      refine s_run rfl (g_on 66 (by kernel_rfl) rfl) (r_beq rfl rfl Try.underlying4) ?_
      refine s_run rfl rfl (r_pkT (v := .bool _) rfl rfl) ?_
      refine s_run rfl rfl (rab rfl) ?_
      refine k_nil ?_
      refine b_norm ?_
      refine c_norm ?_
      refine k_rg ?_
      refine s_run rfl rfl (rmi rfl) ?_
      refine s_run rfl rfl (r_add rfl rfl (wI (by omega))) ?_
      refine s_run rfl rfl (rai rfl) ?_
      refine k_nil ?_
      refine c_round ?_
      refine ⟨_, _, ?_, rfl, i + 1, by omega, rfl, rfl, rfl, rfl, rfl, rfl, ?_, ?_, rfl, H⟩
      ·omega
      ·rw [hw1]; rfl
      ·rw [hs1]; rfl
    | true =>
     cases sa with
     | false =>
      refine k_rg ?_
      refine s_run rfl rfl (rmb rfl) ?_
      refine s_run rfl rfl (rmb rfl) ?_
      refine s_off rfl (g_off 58 (by kernel_rfl) rfl rfl) ?_
      refine s_off rfl (g_off 58 (by kernel_rfl) rfl rfl) ?_
      refine s_off rfl (g_off 58 (by kernel_rfl) rfl rfl) ?_
      refine s_off rfl (g_un 61 (by kernel_rfl) rfl) ?_
      refine s_off rfl (g_off 58 (by kernel_rfl) rfl rfl) ?_
      refine s_run rfl rfl (r_pkF (v := .bool _) rfl rfl) ?_
      refine s_run rfl rfl (rab rfl) ?_
      refine k_nc ?_
      refine k_rg ?_
      refine s_run rfl rfl (rmb rfl) ?_
      refine s_run rfl rfl (rmb rfl) ?_
      refine s_off rfl (g_off 66 (by kernel_rfl) rfl rfl) ?_
      refine s_off rfl (g_off 66 (by kernel_rfl) rfl rfl) ?_
      refine s_off rfl (g_off 66 (by kernel_rfl) rfl rfl) ?_
      refine s_run rfl rfl (r_pkF (v := .bool _) rfl rfl) ?_
      refine s_run rfl rfl (rab rfl) ?_
      refine k_nil ?_
      refine b_norm ?_
      refine c_norm ?_
      refine k_rg ?_
      refine s_run rfl rfl (rmi rfl) ?_
      refine s_run rfl rfl (r_add rfl rfl (wI (by omega))) ?_
      refine s_run rfl rfl (rai rfl) ?_
      refine k_nil ?_
      refine c_round ?_
      refine ⟨_, _, ?_, rfl, i + 1, by omega, rfl, rfl, rfl, rfl, rfl, rfl, ?_, ?_, rfl, H⟩
      ·omega
      ·rw [hw1]; rfl
      ·rw [hs1]; rfl
     | true =>
      refine k_rg ?_
      refine s_run rfl rfl (rmb rfl) ?_
      refine s_run rfl rfl (rmb rfl) ?_
      refine s_off rfl (g_off 58 (by kernel_rfl) rfl rfl) ?_
      refine s_off rfl (g_off 58 (by kernel_rfl) rfl rfl) ?_
      refine s_off rfl (g_off 58 (by kernel_rfl) rfl rfl) ?_
      refine s_off rfl (g_un 61 (by kernel_rfl) rfl) ?_
      refine s_off rfl (g_off 58 (by kernel_rfl) rfl rfl) ?_
      refine s_run rfl rfl (r_pkF (v := .bool _) rfl rfl) ?_
      refine s_run rfl rfl (rab rfl) ?_
      refine k_nc ?_
      refine k_rg ?_
      refine s_run rfl rfl (rmb rfl) ?_
      refine s_run rfl rfl (rmb rfl) ?_
      refine s_run rfl (g_on 66 (by kernel_rfl) rfl) (rmb rfl) ?_
      refine s_run rfl (g_on 66 (by kernel_rfl) rfl) (rmb rfl) ?_
      refine s_run rfl (g_on 66 (by kernel_rfl) rfl) (r_beq rfl rfl Try.underlying4) ?_
      refine s_run rfl rfl (r_pkT (v := .bool _) rfl rfl) ?_
      refine s_run rfl rfl (rab rfl) ?_
      refine k_nil ?_
      refine b_norm ?_
      refine c_norm ?_
      refine k_rg ?_
      refine s_run rfl rfl (rmi rfl) ?_
      refine s_run rfl rfl (r_add rfl rfl (wI (by omega))) ?_
      refine s_run rfl rfl (rai rfl) ?_
      refine k_nil ?_
      refine c_round ?_
      refine ⟨_, _, ?_, rfl, i + 1, by omega, rfl, rfl, rfl, rfl, rfl, rfl, ?_, ?_, rfl, H⟩
      ·omega
      ·rw [hw1]; rfl
      ·rw [hs1]; rfl
   | true =>
    cases h2 with
    | false =>
     cases sa with
     | false =>
      refine k_rg ?_
      refine s_run rfl rfl (rmb rfl) ?_
      refine s_run rfl rfl (rmb rfl) ?_
      refine s_off rfl (g_off 58 (by kernel_rfl) rfl rfl) ?_
      refine s_off rfl (g_off 58 (by kernel_rfl) rfl rfl) ?_
      refine s_off rfl (g_off 58 (by kernel_rfl) rfl rfl) ?_
      refine s_off rfl (g_un 61 (by kernel_rfl) rfl) ?_
      refine s_off rfl (g_off 58 (by kernel_rfl) rfl rfl) ?_
      refine s_run rfl rfl (r_pkF (v := .bool _) rfl rfl) ?_
      refine s_run rfl rfl (rab rfl) ?_
      refine k_nc ?_
      refine k_rg ?_
      refine s_run rfl rfl (rmb rfl) ?_
      refine s_run rfl rfl (rmb rfl) ?_
      refine s_off rfl (g_off 66 (by kernel_rfl) rfl rfl) ?_
      refine s_off rfl (g_off 66 (by kernel_rfl) rfl rfl) ?_
      refine s_off rfl (g_off 66 (by kernel_rfl) rfl rfl) ?_
      refine s_run rfl rfl (r_pkF (v := .bool _) rfl rfl) ?_
      refine s_run rfl rfl (rab rfl) ?_
      refine k_nil ?_
      refine b_norm ?_
      refine c_norm ?_
      refine k_rg ?_
      refine s_run rfl rfl (rmi rfl) ?_
      refine s_run rfl rfl (r_add rfl rfl (wI (by omega))) ?_
      refine s_run rfl rfl (rai rfl) ?_
      refine k_nil ?_
      refine c_round ?_
      refine ⟨_, _, ?_, rfl, i + 1, by omega, rfl, rfl, rfl, rfl, rfl, rfl, ?_, ?_, rfl, H⟩
      ·omega
      ·rw [hw1]; rfl
      ·rw [hs1]; rfl
     | true =>
      refine k_rg ?_
      refine s_run rfl rfl (rmb rfl) ?_
      refine s_run rfl rfl (rmb rfl) ?_
      refine s_off rfl (g_off 58 (by kernel_rfl) rfl rfl) ?_
      refine s_off rfl (g_off 58 (by kernel_rfl) rfl rfl) ?_
      refine s_off rfl (g_off 58 (by kernel_rfl) rfl rfl) ?_
      refine s_off rfl (g_un 61 (by kernel_rfl) rfl) ?_
      refine s_off rfl (g_off 58 (by kernel_rfl) rfl rfl) ?_
      refine s_run rfl rfl (r_pkF (v := .bool _) rfl rfl) ?_
      refine s_run rfl rfl (rab rfl) ?_
      refine k_nc ?_
      refine k_rg ?_
      refine s_run rfl rfl (rmb rfl) ?_
      refine s_run rfl rfl (rmb rfl) ?_
      refine s_run rfl (g_on 66 (by kernel_rfl) rfl) (rmb rfl) ?_
      refine s_run rfl (g_on 66 (by kernel_rfl) rfl) (rmb rfl) ?_
      refine s_run rfl (g_on 66 (by kernel_rfl) rfl) (r_beq rfl rfl Try.underlying4) ?_
      refine s_run rfl rfl (r_pkT (v := .bool _) rfl rfl) ?_
      refine s_run rfl rfl (rab rfl) ?_
      refine k_nil ?_
      refine b_norm ?_
      refine c_norm ?_
      refine k_rg ?_
      refine s_run rfl rfl (rmi rfl) ?_
      refine s_run rfl rfl (r_add rfl rfl (wI (by omega))) ?_
      refine s_run rfl rfl (rai rfl) ?_
      refine k_nil ?_
      refine c_round ?_
      refine ⟨_, _, ?_, rfl, i + 1, by omega, rfl, rfl, rfl, rfl, rfl, rfl, ?_, ?_, rfl, H⟩
      ·omega
      ·rw [hw1]; rfl
      ·rw [hs1]; rfl
    | true =>
     cases sa with
     | false =>
      refine k_rg ?_
      refine s_run rfl rfl (rmb rfl) ?_
      refine s_run rfl rfl (rmb rfl) ?_
      refine s_off rfl (g_off 58 (by kernel_rfl) rfl rfl) ?_
      refine s_off rfl (g_off 58 (by kernel_rfl) rfl rfl) ?_
      refine s_off rfl (g_off 58 (by kernel_rfl) rfl rfl) ?_
      refine s_off rfl (g_un 61 (by kernel_rfl) rfl) ?_
      refine s_off rfl (g_off 58 (by kernel_rfl) rfl rfl) ?_
      refine s_run rfl rfl (r_pkF (v := .bool _) rfl rfl) ?_
      refine s_run rfl rfl (rab rfl) ?_
      refine k_nc ?_
      refine k_rg ?_
      refine s_run rfl rfl (rmb rfl) ?_
      refine s_run rfl rfl (rmb rfl) ?_
      refine s_off rfl (g_off 66 (by kernel_rfl) rfl rfl) ?_
      refine s_off rfl (g_off 66 (by kernel_rfl) rfl rfl) ?_
      refine s_off rfl (g_off 66 (by kernel_rfl) rfl rfl) ?_
      refine s_run rfl rfl (r_pkF (v := .bool _) rfl rfl) ?_
      refine s_run rfl rfl (rab rfl) ?_
      refine k_nil ?_
      refine b_norm ?_
      refine c_norm ?_
      refine k_rg ?_
      refine s_run rfl rfl (rmi rfl) ?_
      refine s_run rfl rfl (r_add rfl rfl (wI (by omega))) ?_
      refine s_run rfl rfl (rai rfl) ?_
      refine k_nil ?_
      refine c_round ?_
      refine ⟨_, _, ?_, rfl, i + 1, by omega, rfl, rfl, rfl, rfl, rfl, rfl, ?_, ?_, rfl, H⟩
      ·omega
      ·rw [hw1]; rfl
      ·rw [hs1]; rfl
     | true =>
      refine k_rg ?_
      refine s_run rfl rfl (rmb rfl) ?_
      refine s_run rfl rfl (rmb rfl) ?_
      refine s_off rfl (g_off 58 (by kernel_rfl) rfl rfl) ?_
      refine s_off rfl (g_off 58 (by kernel_rfl) rfl rfl) ?_
      refine s_off rfl (g_off 58 (by kernel_rfl) rfl rfl) ?_
      refine s_off rfl (g_un 61 (by kernel_rfl) rfl) ?_
      refine s_off rfl (g_off 58 (by kernel_rfl) rfl rfl) ?_
      refine s_run rfl rfl (r_pkF (v := .bool _) rfl rfl) ?_
      refine s_run rfl rfl (rab rfl) ?_
      refine k_nc ?_
      refine k_rg ?_
      refine s_run rfl rfl (rmb rfl) ?_
      refine s_run rfl rfl (rmb rfl) ?_
      refine s_run rfl (g_on 66 (by kernel_rfl) rfl) (rmb rfl) ?_
      refine s_run rfl (g_on 66 (by kernel_rfl) rfl) (rmb rfl) ?_
      refine s_run rfl (g_on 66 (by kernel_rfl) rfl) (r_beq rfl rfl Try.underlying4) ?_
      refine s_run rfl rfl (r_pkT (v := .bool _) rfl rfl) ?_
      refine s_run rfl rfl (rab rfl) ?_
      refine k_nil ?_
      refine b_norm ?_
      refine c_norm ?_
      refine k_rg ?_
      refine s_run rfl rfl (rmi rfl) ?_
      refine s_run rfl rfl (r_add rfl rfl (wI (by omega))) ?_
      refine s_run rfl rfl (rai rfl) ?_
      refine k_nil ?_
      refine c_round ?_
      refine ⟨_, _, ?_, rfl, i + 1, by omega, rfl, rfl, rfl, rfl, rfl, rfl, ?_, ?_, rfl, H⟩
      ·omega
      ·rw [hw1]; rfl
      ·rw [hs1]; rfl
  | true =>
   cases h1 with
   | false =>
    cases h2 with
    | false =>
     cases sa with
     | false =>
      refine k_rg ?_
      refine s_run rfl rfl (rmb rfl) ?_
      refine s_run rfl rfl (rmb rfl) ?_
      refine s_run rfl (g_on 58 (by kernel_rfl) rfl) (rmb rfl) ?_
      refine s_run rfl (g_on 58 (by kernel_rfl) rfl) (r_notF rfl) ?_
      refine s_run rfl (g_on 58 (by kernel_rfl) rfl) (rmb rfl) ?_
      refine s_off rfl (g_off 61 (by kernel_rfl) rfl rfl) ?_
      refine s_run rfl (g_on 58 (by kernel_rfl) rfl) (r_pkT (v := .bool _) rfl rfl) ?_
      refine s_run rfl rfl (r_pkT (v := .bool _) rfl rfl) ?_
      refine s_run rfl rfl (rab rfl) ?_
      refine k_nc ?_
      refine k_rg ?_
      refine s_run rfl rfl (rmb rfl) ?_
      refine s_run rfl rfl (rmb rfl) ?_
      refine s_off rfl (g_off 66 (by kernel_rfl) rfl rfl) ?_
      refine s_off rfl (g_off 66 (by kernel_rfl) rfl rfl) ?_
      refine s_off rfl (g_off 66 (by kernel_rfl) rfl rfl) ?_
      refine s_run rfl rfl (r_pkF (v := .bool _) rfl rfl) ?_
      refine s_run rfl rfl (rab rfl) ?_
      refine k_nil ?_
      refine b_norm ?_
      refine c_norm ?_
      refine k_rg ?_
      refine s_run rfl rfl (rmi rfl) ?_
      refine s_run rfl rfl (r_add rfl rfl (wI (by omega))) ?_
      refine s_run rfl rfl (rai rfl) ?_
      refine k_nil ?_
      refine c_round ?_
      refine ⟨_, _, ?_, rfl, i + 1, by omega, rfl, rfl, rfl, rfl, rfl, rfl, ?_, ?_, rfl, H⟩
      ·omega
      ·rw [hw1]; rfl
      ·rw [hs1]; rfl
     | true =>
      refine k_rg ?_
      refine s_run rfl rfl (rmb rfl) ?_
      refine s_run rfl rfl (rmb rfl) ?_
      refine s_run rfl (g_on 58 (by kernel_rfl) rfl) (rmb rfl) ?_
      refine s_run rfl (g_on 58 (by kernel_rfl) rfl) (r_notF rfl) ?_
      refine s_run rfl (g_on 58 (by kernel_rfl) rfl) (rmb rfl) ?_
      refine s_off rfl (g_off 61 (by kernel_rfl) rfl rfl) ?_
      refine s_run rfl (g_on 58 (by kernel_rfl) rfl) (r_pkT (v := .bool _) rfl rfl) ?_
      refine s_run rfl rfl (r_pkT (v := .bool _) rfl rfl) ?_
      refine s_run rfl rfl (rab rfl) ?_
      refine k_nc ?_
      refine k_rg ?_
      refine s_run rfl rfl (rmb rfl) ?_
      refine s_run rfl rfl (rmb rfl) ?_
      refine s_run rfl (g_on 66 (by kernel_rfl) rfl) (rmb rfl) ?_
      refine s_run rfl (g_on 66 (by kernel_rfl) rfl) (rmb rfl) ?_
      refine s_run rfl (g_on 66 (by kernel_rfl) rfl) (r_beq rfl rfl Try.underlying4) ?_
      refine s_run rfl rfl (r_pkT (v := .bool _) rfl rfl) ?_
      refine s_run rfl rfl (rab rfl) ?_
      refine k_nil ?_
      refine b_norm ?_
      refine c_norm ?_
      refine k_rg ?_
      refine s_run rfl rfl (rmi rfl) ?_
      refine s_run rfl rfl (r_add rfl rfl (wI (by omega))) ?_
      refine s_run rfl rfl (rai rfl) ?_
      refine k_nil ?_
      refine c_round ?_
      refine ⟨_, _, ?_, rfl, i + 1, by omega, rfl, rfl, rfl, rfl, rfl, rfl, ?_, ?_, rfl, H⟩
      ·omega
      ·rw [hw1]; rfl
      ·rw [hs1]; rfl
    | true =>
     cases sa with
     | false =>
      refine k_rg ?_
      refine s_run rfl rfl (rmb rfl) ?_
      refine s_run rfl rfl (rmb rfl) ?_
      refine s_run rfl (g_on 58 (by kernel_rfl) rfl) (rmb rfl) ?_
      refine s_run rfl (g_on 58 (by kernel_rfl) rfl) (r_notF rfl) ?_
      refine s_run rfl (g_on 58 (by kernel_rfl) rfl) (rmb rfl) ?_
      refine s_off rfl (g_off 61 (by kernel_rfl) rfl rfl) ?_
      refine s_run rfl (g_on 58 (by kernel_rfl) rfl) (r_pkT (v := .bool _) rfl rfl) ?_
      refine s_run rfl rfl (r_pkT (v := .bool _) rfl rfl) ?_
      refine s_run rfl rfl (rab rfl) ?_
      refine k_nc ?_
      refine k_rg ?_
      refine s_run rfl rfl (rmb rfl) ?_
      refine s_run rfl rfl (rmb rfl) ?_
      refine s_off rfl (g_off 66 (by kernel_rfl) rfl rfl) ?_
      refine s_off rfl (g_off 66 (by kernel_rfl) rfl rfl) ?_
      refine s_off rfl (g_off 66 (by kernel_rfl) rfl rfl) ?_
      refine s_run rfl rfl (r_pkF (v := .bool _) rfl rfl) ?_
      refine s_run rfl rfl (rab rfl) ?_
      refine k_nil ?_
      refine b_norm ?_
      refine c_norm ?_
      refine k_rg ?_
      refine s_run rfl rfl (rmi rfl) ?_
      refine s_run rfl rfl (r_add rfl rfl (wI (by omega))) ?_
      refine s_run rfl rfl (rai rfl) ?_
      refine k_nil ?_
      refine c_round ?_
      refine ⟨_, _, ?_, rfl, i + 1, by omega, rfl, rfl, rfl, rfl, rfl, rfl, ?_, ?_, rfl, H⟩
      ·omega
      ·rw [hw1]; rfl
      ·rw [hs1]; rfl
     | true =>
      refine k_rg ?_
      refine s_run rfl rfl (rmb rfl) ?_
      refine s_run rfl rfl (rmb rfl) ?_
      refine s_run rfl (g_on 58 (by kernel_rfl) rfl) (rmb rfl) ?_
      refine s_run rfl (g_on 58 (by kernel_rfl) rfl) (r_notF rfl) ?_
      refine s_run rfl (g_on 58 (by kernel_rfl) rfl) (rmb rfl) ?_
      refine s_off rfl (g_off 61 (by kernel_rfl) rfl rfl) ?_
      refine s_run rfl (g_on 58 (by kernel_rfl) rfl) (r_pkT (v := .bool _) rfl rfl) ?_
      refine s_run rfl rfl (r_pkT (v := .bool _) rfl rfl) ?_
      refine s_run rfl rfl (rab rfl) ?_
      refine k_nc ?_
      refine k_rg ?_
      refine s_run rfl rfl (rmb rfl) ?_
      refine s_run rfl rfl (rmb rfl) ?_
      refine s_run rfl (g_on 66 (by kernel_rfl) rfl) (rmb rfl) ?_
      refine s_run rfl (g_on 66 (by kernel_rfl) rfl) (rmb rfl) ?_
      refine s_run rfl (g_on 66 (by kernel_rfl) rfl) (r_beq rfl rfl Try.underlying4) ?_
      refine s_run rfl rfl (r_pkT (v := .bool _) rfl rfl) ?_
      refine s_run rfl rfl (rab rfl) ?_
      refine k_nil ?_
      refine b_norm ?_
      refine c_norm ?_
      refine k_rg ?_
      refine s_run rfl rfl (rmi rfl) ?_
      refine s_run rfl rfl (r_add rfl rfl (wI (by omega))) ?_
      refine s_run rfl rfl (rai rfl) ?_
      refine k_nil ?_
      refine c_round ?_
      refine ⟨_, _, ?_, rfl, i + 1, by omega, rfl, rfl, rfl, rfl, rfl, rfl, ?_, ?_, rfl, H⟩
      ·omega
      ·rw [hw1]; rfl
      ·rw [hs1]; rfl
   | true =>
    cases h2 with
    | false =>
     cases sa with
     | false =>
      refine k_rg ?_
      refine s_run rfl rfl (rmb rfl) ?_
      refine s_run rfl rfl (rmb rfl) ?_
      refine s_run rfl (g_on 58 (by kernel_rfl) rfl) (rmb rfl) ?_
      refine s_run rfl (g_on 58 (by kernel_rfl) rfl) (r_notT rfl) ?_
      refine s_run rfl (g_on 58 (by kernel_rfl) rfl) (rmb rfl) ?_
      refine s_run rfl (g_on 61 (by kernel_rfl) rfl) (rmb rfl) ?_
      refine s_run rfl (g_on 58 (by kernel_rfl) rfl) (r_pkF (v := .bool _) rfl rfl) ?_
      refine s_run rfl rfl (r_pkT (v := .bool _) rfl rfl) ?_
      refine s_run rfl rfl (rab rfl) ?_
      refine k_nc ?_
      refine k_rg ?_
      refine s_run rfl rfl (rmb rfl) ?_
      refine s_run rfl rfl (rmb rfl) ?_
      refine s_off rfl (g_off 66 (by kernel_rfl) rfl rfl) ?_
      refine s_off rfl (g_off 66 (by kernel_rfl) rfl rfl) ?_
      refine s_off rfl (g_off 66 (by kernel_rfl) rfl rfl) ?_
      refine s_run rfl rfl (r_pkF (v := .bool _) rfl rfl) ?_
      refine s_run rfl rfl (rab rfl) ?_
      refine k_nil ?_
      refine b_norm ?_
      refine c_norm ?_
      refine k_rg ?_
      refine s_run rfl rfl (rmi rfl) ?_
      refine s_run rfl rfl (r_add rfl rfl (wI (by omega))) ?_
      refine s_run rfl rfl (rai rfl) ?_
      refine k_nil ?_
      refine c_round ?_
      refine ⟨_, _, ?_, rfl, i + 1, by omega, rfl, rfl, rfl, rfl, rfl, rfl, ?_, ?_, rfl, H⟩
      ·omega
      ·rw [hw1]; rfl
      ·rw [hs1]; rfl
     | true =>
      refine k_rg ?_
      refine s_run rfl rfl (rmb rfl) ?_
      refine s_run rfl rfl (rmb rfl) ?_
      refine s_run rfl (g_on 58 (by kernel_rfl) rfl) (rmb rfl) ?_
      refine s_run rfl (g_on 58 (by kernel_rfl) rfl) (r_notT rfl) ?_
      refine s_run rfl (g_on 58 (by kernel_rfl) rfl) (rmb rfl) ?_
      refine s_run rfl (g_on 61 (by kernel_rfl) rfl) (rmb rfl) ?_
      refine s_run rfl (g_on 58 (by kernel_rfl) rfl) (r_pkF (v := .bool _) rfl rfl) ?_
      refine s_run rfl rfl (r_pkT (v := .bool _) rfl rfl) ?_
      refine s_run rfl rfl (rab rfl) ?_
      refine k_nc ?_
      refine k_rg ?_
      refine s_run rfl rfl (rmb rfl) ?_
      refine s_run rfl rfl (rmb rfl) ?_
      refine s_run rfl (g_on 66 (by kernel_rfl) rfl) (rmb rfl) ?_
      refine s_run rfl (g_on 66 (by kernel_rfl) rfl) (rmb rfl) ?_
      refine s_run rfl (g_on 66 (by kernel_rfl) rfl) (r_beq rfl rfl Try.underlying4) ?_
      refine s_run rfl rfl (r_pkT (v := .bool _) rfl rfl) ?_
      refine s_run rfl rfl (rab rfl) ?_
      refine k_nil ?_
      refine b_norm ?_
      refine c_norm ?_
      refine k_rg ?_
      refine s_run rfl rfl (rmi rfl) ?_
      refine s_run rfl rfl (r_add rfl rfl (wI (by omega))) ?_
      refine s_run rfl rfl (rai rfl) ?_
      refine k_nil ?_
      refine c_round ?_
      refine ⟨_, _, ?_, rfl, i + 1, by omega, rfl, rfl, rfl, rfl, rfl, rfl, ?_, ?_, rfl, H⟩
      ·omega
      ·rw [hw1]; rfl
      ·rw [hs1]; rfl
    | true =>
     cases sa with
     | false =>
      refine k_rg ?_
      refine s_run rfl rfl (rmb rfl) ?_
      refine s_run rfl rfl (rmb rfl) ?_
      refine s_run rfl (g_on 58 (by kernel_rfl) rfl) (rmb rfl) ?_
      refine s_run rfl (g_on 58 (by kernel_rfl) rfl) (r_notT rfl) ?_
      refine s_run rfl (g_on 58 (by kernel_rfl) rfl) (rmb rfl) ?_
      refine s_run rfl (g_on 61 (by kernel_rfl) rfl) (rmb rfl) ?_
      refine s_run rfl (g_on 58 (by kernel_rfl) rfl) (r_pkF (v := .bool _) rfl rfl) ?_
      refine s_run rfl rfl (r_pkT (v := .bool _) rfl rfl) ?_
      refine s_run rfl rfl (rab rfl) ?_
      refine k_nc ?_
      refine k_rg ?_
      refine s_run rfl rfl (rmb rfl) ?_
      refine s_run rfl rfl (rmb rfl) ?_
      refine s_off rfl (g_off 66 (by kernel_rfl) rfl rfl) ?_
      refine s_off rfl (g_off 66 (by kernel_rfl) rfl rfl) ?_
      refine s_off rfl (g_off 66 (by kernel_rfl) rfl rfl) ?_
      refine s_run rfl rfl (r_pkF (v := .bool _) rfl rfl) ?_
      refine s_run rfl rfl (rab rfl) ?_
      refine k_nil ?_
      refine b_norm ?_
      refine c_norm ?_
      refine k_rg ?_
      refine s_run rfl rfl (rmi rfl) ?_
      refine s_run rfl rfl (r_add rfl rfl (wI (by omega))) ?_
      refine s_run rfl rfl (rai rfl) ?_
      refine k_nil ?_
      refine c_round ?_
      refine ⟨_, _, ?_, rfl, i + 1, by omega, rfl, rfl, rfl, rfl, rfl, rfl, ?_, ?_, rfl, H⟩
      ·omega
      ·rw [hw1]; rfl
      ·rw [hs1]; rfl
     | true =>
      refine k_rg ?_
      refine s_run rfl rfl (rmb rfl) ?_
      refine s_run rfl rfl (rmb rfl) ?_
      refine s_run rfl (g_on 58 (by kernel_rfl) rfl) (rmb rfl) ?_
      refine s_run rfl (g_on 58 (by kernel_rfl) rfl) (r_notT rfl) ?_
      refine s_run rfl (g_on 58 (by kernel_rfl) rfl) (rmb rfl) ?_
      refine s_run rfl (g_on 61 (by kernel_rfl) rfl) (rmb rfl) ?_
      refine s_run rfl (g_on 58 (by kernel_rfl) rfl) (r_pkF (v := .bool _) rfl rfl) ?_
      refine s_run rfl rfl (r_pkT (v := .bool _) rfl rfl) ?_
      refine s_run rfl rfl (rab rfl) ?_
      refine k_nc ?_
      refine k_rg ?_
      refine s_run rfl rfl (rmb rfl) ?_
      refine s_run rfl rfl (rmb rfl) ?_
      refine s_run rfl (g_on 66 (by kernel_rfl) rfl) (rmb rfl) ?_
      refine s_run rfl (g_on 66 (by kernel_rfl) rfl) (rmb rfl) ?_
      refine s_run rfl (g_on 66 (by kernel_rfl) rfl) (r_beq rfl rfl Try.underlying4) ?_
      refine s_run rfl rfl (r_pkT (v := .bool _) rfl rfl) ?_
      refine s_run rfl rfl (rab rfl) ?_
      refine k_nil ?_
      refine b_norm ?_
      refine c_norm ?_
      refine k_rg ?_
      refine s_run rfl rfl (rmi rfl) ?_
      refine s_run rfl rfl (r_add rfl rfl (wI (by omega))) ?_
      refine s_run rfl rfl (rai rfl) ?_
      refine k_nil ?_
      refine c_round ?_
      refine ⟨_, _, ?_, rfl, i + 1, by omega, rfl, rfl, rfl, rfl, rfl, rfl, ?_, ?_, rfl, H⟩
      ·omega
      ·rw [hw1]; rfl
      ·rw [hs1]; rfl
 ·obtain rfl : i = 256 := by omega
  have hwi : decide (∀ x ∈ Bm.elems l, Bm.has l' x = true) = wiB l l' 256 := by
   unfold wiB; exact decide_eq_decide.2 (Bm.within_iff l l' (by have := hk.len; omega))
  have hsa : (decide (Bm.cnt l = Bm.cnt l') && decide (∀ x ∈ Bm.elems l, Bm.has l' x = true)) = saB l l' 256 := by
   unfold saB
   rw [← Bool.decide_and]; exact decide_eq_decide.2 (Bm.same_iff l l' (by have := hk.len; omega) (by have := hk'.len; omega))
  have hW := fun {W : World} hE => bWithin (p := p) hk (pB := p') hk' W hE
  have hS := fun {W : World} hE => bSame (p := p) hk (pB := p') hk' W hE
  rw [hwi] at hW
  rw [hsa] at hS
  have hJ := fun {W : World} hE => bJoin (p := p) hk (pB := p') hk' W hE
  have hkp : SetOk b A c (Bm.puts l (Bm.elems l')) := ⟨by rw [Bm.puts_nw]; exact hk.row, by rw [Bm.puts_len]; exact hk.len⟩
  refine k_seq ?_
  refine k_sg ?_
  refine s_run rfl rfl (rmi rfl) ?_
  refine s_run rfl rfl (r_lssF rfl rfl (by omega)) ?_
  refine k_nc ?_
  refine k_f rfl ?_
  refine k_exit ?_
  refine c_exit ?_
  refine c_exit ?_
  refine b_hit ?_
  refine c_norm ?_
  refine k_seq ?_
  refine k_sg ?_
  refine s_run rfl rfl (rmp rfl) ?_
  refine s_run rfl rfl (rmp rfl) ?_
  refine s_call rfl (hW (H.part (A := [_, _]))) (ca44 rfl) ?_
  rintro e W1 ⟨rfl, H'⟩
  refine ⟨_, rfl, ?_⟩
  have H := H.same H'; clear H'
  refine s_run rfl rfl (rmb rfl) ?_
  refine s_run rfl rfl (r_bneq rfl rfl rfl Try.underlying4) ?_
  refine s_run rfl rfl (rmb rfl) ?_
  refine s_run rfl (g_on 76 (by kernel_rfl) rfl) (rmp rfl) ?_
  refine s_run rfl (g_on 76 (by kernel_rfl) rfl) (rmp rfl) ?_
  refine s_call (g_on 76 (by kernel_rfl) rfl) (hS (H.part (A := [_, _]))) (ca45 rfl) ?_
  rintro e W1 ⟨rfl, H'⟩
  refine ⟨_, rfl, ?_⟩
  have H := H.same H'; clear H'
  refine s_run rfl (g_on 76 (by kernel_rfl) rfl) (rmb rfl) ?_
  refine s_run rfl (g_on 76 (by kernel_rfl) rfl) (r_bneq rfl rfl rfl Try.underlying4) ?_
  refine s_run rfl rfl (r_pkF (v := .bool _) rfl rfl) ?_
  refine k_nc ?_
  refine k_f rfl ?_
  refine k_skip ?_
  refine c_norm ?_
  refine k_sg ?_
  refine s_run rfl rfl (rmp rfl) ?_
  refine s_run rfl rfl (rmp rfl) ?_
  refine s_call rfl (hJ (H.part (A := [_, _]))) (ca46 rfl) ?_
  rintro e W1 ⟨rfl, H'⟩
  refine ⟨_, rfl, ?_⟩
  have H := H.grp_at 0 rfl (grp_open H'); clear H'
  refine k_nc ?_
  refine k_seq ?_
  refine k_sg ?_
  refine s_run rfl rfl (rai rfl) ?_
  refine k_nc ?_
  refine k_b ?_
  refine k_loop (fun z f W => ∃ i : Nat, i ≤ 256 ∧ z = 256 - i ∧ f 7 = .int .u8 la ∧ f 9 = pt p ∧ f 10 = .slice B n d ∧ f 12 = pt p' ∧ f 13 = .slice B' m d' ∧ f 20 = .int .i64 i ∧ Heap w [] [grp (setE p b A c (Bm.puts l (Bm.elems l'))), grp (setE p' b' A' c' l'), vec Value.bool b2 l 4, vec Value.bool b2' l' 4] W) 256 ⟨0, by omega, rfl, rfl, rfl, rfl, rfl, rfl, rfl, H⟩ ?_
  clear H
  rintro z f W ⟨i, hi, rfl, f7, f9, f10, f12, f13, f20, H⟩
  obtain ⟨f, rfl⟩ := live6 f7 f9 f10 f12 f13 f20
  clear f7 f9 f10 f12 f13 f20
  have hB1 := fun {W : World} hE (i : Nat) => bHasI (p := p) hkp W hE i
  have hB2 := fun {W : World} hE (i : Nat) => bHasI (p := p') hk' W hE i
  by_cases hlt : i < 256
  ·have hpu := Bm.has_puts (Bm.elems l') i l
   rw [show decide ((i : Int) ∈ Bm.elems l') = Bm.at_ l' i from by rw [Bool.eq_iff_iff, decide_eq_true_eq]; exact Bm.elem_iff, hln] at hpu
   replace hB1 := fun {W : World} hE => hB1 (W := W) hE i
   replace hB2 := fun {W : World} hE => hB2 (W := W) hE i
   replace hD1 := fun {W : World} (hS : Sees Value.bool W [] B l) => hD1 (W := W) hS i
   replace hD2 := fun {W : World} (hS : Sees Value.bool W [] B' l') => hD2 (W := W) hS i
   rw [hpu] at hB1
   generalize Bm.at_ l i = h1 at *
   generalize Bm.at_ l' i = h2 at *
   cases h1 with
   | true =>
    refine k_seq ?_
    refine k_sg ?_
    refine s_run rfl rfl (rmi rfl) ?_
    refine s_run rfl rfl (r_lssT rfl rfl (by omega)) ?_
    refine k_nc ?_
    refine k_t rfl ?_
    refine k_skip ?_
    refine c_norm ?_
    refine k_seq ?_
    refine k_b ?_
    refine k_sg ?_
    refine s_run rfl rfl (rmp rfl) ?_
    refine s_run rfl rfl (rmi rfl) ?_
    refine s_call rfl (hB1 (H.grp_ents 0 rfl)) (ca38 rfl) ?_
    rintro e W1 ⟨rfl, H'⟩
    refine ⟨_, rfl, ?_⟩
    have H := H.same H'; clear H'
    refine s_run rfl rfl (rms rfl) ?_
    refine s_run rfl rfl (rmi rfl) ?_
    refine s_call rfl (hD1 (H.seesV 2 rfl (by rw [hln]; exact hB))) (ca39 rfl) ?_
    rintro e W1 ⟨rfl, H'⟩
    refine ⟨_, rfl, ?_⟩
    have H := H.same H'; clear H'
    refine s_run rfl rfl (rmb rfl) ?_
    refine s_off rfl (g_off 96 (by kernel_rfl) rfl rfl) ?_
    refine s_off rfl (g_off 96 (by kernel_rfl) rfl rfl) ?_
    refine s_off rfl (g_off 96 (by kernel_rfl) rfl rfl) ?_
    refine s_off rfl (g_off 96 (by kernel_rfl) rfl rfl) ?_
    refine s_off rfl (g_un 100 (by kernel_rfl) rfl) ?_
    refine s_off rfl (g_un 100 (by kernel_rfl) rfl) ?_
    refine s_off rfl (g_un 100 (by kernel_rfl) rfl) ?_
    refine s_off rfl (g_un 100 (by kernel_rfl) rfl) ?_
    refine s_off rfl (g_off 96 (by kernel_rfl) rfl rfl) ?_
    refine s_run rfl rfl (r_pkT (v := .bool _) rfl rfl) ?_
    refine s_run rfl rfl (r_bneq rfl rfl rfl Try.underlying4) ?_
    refine s_run rfl rfl (rmb rfl) ?_
    refine s_run rfl (g_on 108 (by kernel_rfl) rfl) (rmp rfl) ?_
    refine s_run rfl (g_on 108 (by kernel_rfl) rfl) (rmi rfl) ?_
    refine s_call (g_on 108 (by kernel_rfl) rfl) (hB2 (H.grp_ents 1 rfl)) (ca38 rfl) ?_
    rintro e W1 ⟨rfl, H'⟩
    refine ⟨_, rfl, ?_⟩
    have H := H.same H'; clear H'
    refine s_run rfl (g_on 108 (by kernel_rfl) rfl) (rms rfl) ?_
    refine s_run rfl (g_on 108 (by kernel_rfl) rfl) (rmi rfl) ?_
    refine s_call (g_on 108 (by kernel_rfl) rfl) (hD2 (H.seesV 3 rfl (by rw [hln']; exact hB'))) (ca39 rfl) ?_
    rintro e W1 ⟨rfl, H'⟩
    refine ⟨_, rfl, ?_⟩
    have H := H.same H'; clear H'
    refine s_run rfl (g_on 108 (by kernel_rfl) rfl) (r_bneq rfl rfl rfl Try.underlying4) ?_
    refine s_run rfl rfl (r_pkF (v := .bool _) rfl rfl) ?_
    refine k_nc ?_
    refine k_f rfl ?_
    refine k_skip ?_
    refine b_norm ?_
    refine c_norm ?_
    refine k_rg ?_
    refine s_run rfl rfl (rmi rfl) ?_
    refine s_run rfl rfl (r_add rfl rfl (wI (by omega))) ?_
    refine s_run rfl rfl (rai rfl) ?_
    refine k_nil ?_
    refine c_round ?_
    refine ⟨_, _, ?_, rfl, i + 1, by omega, rfl, rfl, rfl, rfl, rfl, rfl, rfl, H⟩
    omega
   | false =>
    cases h2 with
    | false =>
     refine k_seq ?_
     refine k_sg ?_
     refine s_run rfl rfl (rmi rfl) ?_
     refine s_run rfl rfl (r_lssT rfl rfl (by omega)) ?_
     refine k_nc ?_
     refine k_t rfl ?_
     refine k_skip ?_
     refine c_norm ?_
     refine k_seq ?_
     refine k_b ?_
     refine k_sg ?_
     refine s_run rfl rfl (rmp rfl) ?_
     refine s_run rfl rfl (rmi rfl) ?_
     refine s_call rfl (hB1 (H.grp_ents 0 rfl)) (ca38 rfl) ?_
     rintro e W1 ⟨rfl, H'⟩
     refine ⟨_, rfl, ?_⟩
     have H := H.same H'; clear H'
     refine s_run rfl rfl (rms rfl) ?_
     refine s_run rfl rfl (rmi rfl) ?_
     refine s_call rfl (hD1 (H.seesV 2 rfl (by rw [hln]; exact hB))) (ca39 rfl) ?_
     rintro e W1 ⟨rfl, H'⟩
     refine ⟨_, rfl, ?_⟩
     have H := H.same H'; clear H'
     refine s_run rfl rfl (rmb rfl) ?_
     refine s_run rfl (g_on 96 (by kernel_rfl) rfl) (rms rfl) ?_
     refine s_run rfl (g_on 96 (by kernel_rfl) rfl) (rmi rfl) ?_
     refine s_call (g_on 96 (by kernel_rfl) rfl) (hD2 (H.seesV 3 rfl (by rw [hln']; exact hB'))) (ca39 rfl) ?_
     rintro e W1 ⟨rfl, H'⟩
     refine ⟨_, rfl, ?_⟩
     have H := H.same H'; clear H'
     refine s_run rfl (g_on 96 (by kernel_rfl) rfl) (rmb rfl) ?_
     refine s_off rfl (g_off 100 (by kernel_rfl) rfl rfl) ?_
     refine s_off rfl (g_off 100 (by kernel_rfl) rfl rfl) ?_
     refine s_off rfl (g_off 100 (by kernel_rfl) rfl rfl) ?_
     refine s_off rfl (g_off 100 (by kernel_rfl) rfl rfl) ?_
     refine s_run rfl (g_on 96 (by kernel_rfl) rfl) (r_pkF (v := .bool _) rfl rfl) ?_
     refine s_run rfl rfl (r_pkF (v := .bool _) rfl rfl) ?_
     refine s_run rfl rfl (r_bneq rfl rfl rfl Try.underlying4) ?_
     refine s_run rfl rfl (rmb rfl) ?_
     refine s_run rfl (g_on 108 (by kernel_rfl) rfl) (rmp rfl) ?_
     refine s_run rfl (g_on 108 (by kernel_rfl) rfl) (rmi rfl) ?_
     refine s_call (g_on 108 (by kernel_rfl) rfl) (hB2 (H.grp_ents 1 rfl)) (ca38 rfl) ?_
     rintro e W1 ⟨rfl, H'⟩
     refine ⟨_, rfl, ?_⟩
     have H := H.same H'; clear H'
     refine s_run rfl (g_on 108 (by kernel_rfl) rfl) (rms rfl) ?_
     refine s_run rfl (g_on 108 (by kernel_rfl) rfl) (rmi rfl) ?_
     refine s_call (g_on 108 (by kernel_rfl) rfl) (hD2 (H.seesV 3 rfl (by rw [hln']; exact hB'))) (ca39 rfl) ?_
     rintro e W1 ⟨rfl, H'⟩
     refine ⟨_, rfl, ?_⟩
     have H := H.same H'; clear H'
     refine s_run rfl (g_on 108 (by kernel_rfl) rfl) (r_bneq rfl rfl rfl Try.underlying4) ?_
     refine s_run rfl rfl (r_pkF (v := .bool _) rfl rfl) ?_
     refine k_nc ?_
     refine k_f rfl ?_
     refine k_skip ?_
     refine b_norm ?_
     refine c_norm ?_
     refine k_rg ?_
     refine s_run rfl rfl (rmi rfl) ?_
     refine s_run rfl rfl (r_add rfl rfl (wI (by omega))) ?_
     refine s_run rfl rfl (rai rfl) ?_
     refine k_nil ?_
     refine c_round ?_
     refine ⟨_, _, ?_, rfl, i + 1, by omega, rfl, rfl, rfl, rfl, rfl, rfl, rfl, H⟩
     omega
    | true =>
     by_cases hin : i < n
     ·have hdd : decide (i < n) = true := decide_eq_true hin
      refine k_seq ?_
      refine k_sg ?_
      refine s_run rfl rfl (rmi rfl) ?_
      refine s_run rfl rfl (r_lssT rfl rfl (by omega)) ?_
      refine k_nc ?_
      refine k_t rfl ?_
      refine k_skip ?_
      refine c_norm ?_
      refine k_seq ?_
      refine k_b ?_
      refine k_sg ?_
      refine s_run rfl rfl (rmp rfl) ?_
      refine s_run rfl rfl (rmi rfl) ?_
      refine s_call rfl (hB1 (H.grp_ents 0 rfl)) (ca38 rfl) ?_
      rintro e W1 ⟨rfl, H'⟩
      refine ⟨_, rfl, ?_⟩
      have H := H.same H'; clear H'
      refine s_run rfl rfl (rms rfl) ?_
      refine s_run rfl rfl (rmi rfl) ?_
      refine s_call rfl (hD1 (H.seesV 2 rfl (by rw [hln]; exact hB))) (ca39 rfl) ?_
      rintro e W1 ⟨rfl, H'⟩
      refine ⟨_, rfl, ?_⟩
      have H := H.same H'; clear H'
      refine s_run rfl rfl (rmb rfl) ?_
      refine s_run rfl (g_on 96 (by kernel_rfl) rfl) (rms rfl) ?_
      refine s_run rfl (g_on 96 (by kernel_rfl) rfl) (rmi rfl) ?_
      refine s_call (g_on 96 (by kernel_rfl) rfl) (hD2 (H.seesV 3 rfl (by rw [hln']; exact hB'))) (ca39 rfl) ?_
      rintro e W1 ⟨rfl, H'⟩
      refine ⟨_, rfl, ?_⟩
      have H := H.same H'; clear H'
      refine s_run rfl (g_on 96 (by kernel_rfl) rfl) (rmb rfl) ?_
      refine s_run rfl (g_on 100 (by kernel_rfl) rfl) (rmi rfl) ?_
      refine s_run rfl (g_on 100 (by kernel_rfl) rfl) (rmi rfl) ?_
      refine s_run rfl (g_on 100 (by kernel_rfl) rfl) (r_cv rfl (by kernel_rfl) Try.underlying3 (wI (by omega))) ?_
      refine s_run rfl (g_on 100 (by kernel_rfl) rfl) (r_lssT rfl rfl (by omega)) ?_
      refine s_run rfl (g_on 96 (by kernel_rfl) rfl) (r_pkT (v := .bool _) rfl rfl) ?_
      refine s_run rfl rfl (r_pkF (v := .bool _) rfl rfl) ?_
      refine s_run rfl rfl (r_bneq rfl rfl (by simp [hin]) Try.underlying4) ?_
      refine s_run rfl rfl (rmb rfl) ?_
      refine s_run rfl (g_on 108 (by kernel_rfl) rfl) (rmp rfl) ?_
      refine s_run rfl (g_on 108 (by kernel_rfl) rfl) (rmi rfl) ?_
      refine s_call (g_on 108 (by kernel_rfl) rfl) (hB2 (H.grp_ents 1 rfl)) (ca38 rfl) ?_
      rintro e W1 ⟨rfl, H'⟩
      refine ⟨_, rfl, ?_⟩
      have H := H.same H'; clear H'
      refine s_run rfl (g_on 108 (by kernel_rfl) rfl) (rms rfl) ?_
      refine s_run rfl (g_on 108 (by kernel_rfl) rfl) (rmi rfl) ?_
      refine s_call (g_on 108 (by kernel_rfl) rfl) (hD2 (H.seesV 3 rfl (by rw [hln']; exact hB'))) (ca39 rfl) ?_
      rintro e W1 ⟨rfl, H'⟩
      refine ⟨_, rfl, ?_⟩
      have H := H.same H'; clear H'
      refine s_run rfl (g_on 108 (by kernel_rfl) rfl) (r_bneq rfl rfl rfl Try.underlying4) ?_
      refine s_run rfl rfl (r_pkF (v := .bool _) rfl rfl) ?_
      refine k_nc ?_
      refine k_f rfl ?_
      refine k_skip ?_
      refine b_norm ?_
      refine c_norm ?_
      refine k_rg ?_
      refine s_run rfl rfl (rmi rfl) ?_
      refine s_run rfl rfl (r_add rfl rfl (wI (by omega))) ?_
      refine s_run rfl rfl (rai rfl) ?_
      refine k_nil ?_
      refine c_round ?_
      refine ⟨_, _, ?_, rfl, i + 1, by omega, rfl, rfl, rfl, rfl, rfl, rfl, rfl, H⟩
      omega
     ·have hdd : decide (i < n) = false := decide_eq_false hin
      refine k_seq ?_
      refine k_sg ?_
      refine s_run rfl rfl (rmi rfl) ?_
      refine s_run rfl rfl (r_lssT rfl rfl (by omega)) ?_
      refine k_nc ?_
      refine k_t rfl ?_
      refine k_skip ?_
      refine c_norm ?_
      refine k_seq ?_
      refine k_b ?_
      refine k_sg ?_
      refine s_run rfl rfl (rmp rfl) ?_
      refine s_run rfl rfl (rmi rfl) ?_
      refine s_call rfl (hB1 (H.grp_ents 0 rfl)) (ca38 rfl) ?_
      rintro e W1 ⟨rfl, H'⟩
      refine ⟨_, rfl, ?_⟩
      have H := H.same H'; clear H'
      refine s_run rfl rfl (rms rfl) ?_
      refine s_run rfl rfl (rmi rfl) ?_
      refine s_call rfl (hD1 (H.seesV 2 rfl (by rw [hln]; exact hB))) (ca39 rfl) ?_
      rintro e W1 ⟨rfl, H'⟩
      refine ⟨_, rfl, ?_⟩
      have H := H.same H'; clear H'
      refine s_run rfl rfl (rmb rfl) ?_
      refine s_run rfl (g_on 96 (by kernel_rfl) rfl) (rms rfl) ?_
      refine s_run rfl (g_on 96 (by kernel_rfl) rfl) (rmi rfl) ?_
      refine s_call (g_on 96 (by kernel_rfl) rfl) (hD2 (H.seesV 3 rfl (by rw [hln']; exact hB'))) (ca39 rfl) ?_
      rintro e W1 ⟨rfl, H'⟩
      refine ⟨_, rfl, ?_⟩
      have H := H.same H'; clear H'
      refine s_run rfl (g_on 96 (by kernel_rfl) rfl) (rmb rfl) ?_
      refine s_run rfl (g_on 100 (by kernel_rfl) rfl) (rmi rfl) ?_
      refine s_run rfl (g_on 100 (by kernel_rfl) rfl) (rmi rfl) ?_
      refine s_run rfl (g_on 100 (by kernel_rfl) rfl) (r_cv rfl (by kernel_rfl) Try.underlying3 (wI (by omega))) ?_
      refine s_run rfl (g_on 100 (by kernel_rfl) rfl) (r_lssF rfl rfl (by omega)) ?_
      refine s_run rfl (g_on 96 (by kernel_rfl) rfl) (r_pkT (v := .bool _) rfl rfl) ?_
      refine s_run rfl rfl (r_pkF (v := .bool _) rfl rfl) ?_
      refine s_run rfl rfl (r_bneq rfl rfl (by simp [hin]) Try.underlying4) ?_
      refine s_run rfl rfl (rmb rfl) ?_
      refine s_run rfl (g_on 108 (by kernel_rfl) rfl) (rmp rfl) ?_
      refine s_run rfl (g_on 108 (by kernel_rfl) rfl) (rmi rfl) ?_
      refine s_call (g_on 108 (by kernel_rfl) rfl) (hB2 (H.grp_ents 1 rfl)) (ca38 rfl) ?_
      rintro e W1 ⟨rfl, H'⟩
      refine ⟨_, rfl, ?_⟩
      have H := H.same H'; clear H'
      refine s_run rfl (g_on 108 (by kernel_rfl) rfl) (rms rfl) ?_
      refine s_run rfl (g_on 108 (by kernel_rfl) rfl) (rmi rfl) ?_
      refine s_call (g_on 108 (by kernel_rfl) rfl) (hD2 (H.seesV 3 rfl (by rw [hln']; exact hB'))) (ca39 rfl) ?_
      rintro e W1 ⟨rfl, H'⟩
      refine ⟨_, rfl, ?_⟩
      have H := H.same H'; clear H'
      refine s_run rfl (g_on 108 (by kernel_rfl) rfl) (r_bneq rfl rfl rfl Try.underlying4) ?_
      refine s_run rfl rfl (r_pkF (v := .bool _) rfl rfl) ?_
      refine k_nc ?_
      refine k_f rfl ?_
      refine k_skip ?_
      refine b_norm ?_
      refine c_norm ?_
      refine k_rg ?_
      refine s_run rfl rfl (rmi rfl) ?_
      refine s_run rfl rfl (r_add rfl rfl (wI (by omega))) ?_
      refine s_run rfl rfl (rai rfl) ?_
      refine k_nil ?_
      refine c_round ?_
      refine ⟨_, _, ?_, rfl, i + 1, by omega, rfl, rfl, rfl, rfl, rfl, rfl, rfl, H⟩
      omega
  ·refine k_seq ?_
   refine k_sg ?_
   refine s_run rfl rfl (rmi rfl) ?_
   refine s_run rfl rfl (r_lssF rfl rfl (by omega)) ?_
   refine k_nc ?_
   refine k_f rfl ?_
   refine k_exit ?_
   refine c_exit ?_
   refine c_exit ?_
   refine b_hit ?_
   refine c_norm ?_
   refine k_sg ?_
   refine s_run rfl rfl (rab rfl) ?_
   refine k_nc ?_
   refine k_ret ?_
   refine fin1r (v := .bool _) rfl rfl ?_
   exact ⟨rfl, H.below⟩
end Go.Proofs.Ytdgmlfpikgjnlaa
end

section
namespace Go.Proofs.Ytdgmlfpikgjnlaa.lBitmapJoins
open Go.ChangeShapes Go.WideShapes Go.ChangeAt Go.RowKit
theorem own : ownKnob Try.prog.godebug = none := by kernel_rfl
theorem laidOut : laidOutB Try.prog = true := by kernel_rfl
set_option maxRecDepth 100000 in
theorem lifted (os : Os) (started : os.Started) (H : Type) (enc : TypeId × Value → H) :
  ReturnsInHanded {} Try.checked os 12 .any (Rows.bitmapJoinsSpec.pre6 enc Try.prog Try.f12 Rows.bitmapJoinsRow.domain false) (Rows.bitmapJoinsSpec.post enc Try.prog Try.f12 false true false false) := by
 refine returnsInHanded_of_change (C := Try.checked) own started (by kernel_rfl) Try.func12
  (ChangeSpec.witness6 (enc := enc) (C := Try.checked) false ⟨#[], #[.agg #[.int .u8 0, .int .u8 0], .slice none 0 0, .slice none 0 0], []⟩ 8 (by kernel_rfl) (by kernel_rfl) (by kernel_rfl) (by kernel_rfl)) ?_
 intro W base args ds gs before hval0 hW hcnd _
 have hval : ∀ (j : Nat) t v, Try.f12.params[j]? = some t → args[j]? = some v → Value.okWide Try.prog W .any base t v := hval0
 have hW' := hW
 obtain ⟨p, q, hA0, hV, rfl, hfz, hnd⟩ := hW
 have hA : DataW.TrodAll enc Try.prog W 0 (fun _ => true) true Try.f12.params.toList args.toList ds p := hA0
 rw [Try.params12] at hA hval
 obtain ⟨v0, vs0, d0, ds0, p0, q0, hargs, rfl, rfl, h0, r0⟩ := trodAll_cons hA
 obtain ⟨v1, vs1, d1, ds1, p1, q1, rfl, rfl, rfl, h1, r1⟩ := trodAll_cons r0
 obtain ⟨v2, vs2, d2, ds2, p2, q2, rfl, rfl, rfl, h2, r2⟩ := trodAll_cons r1
 obtain ⟨rfl, rfl, rfl⟩ := trodAll_nil r2
 obtain rfl : args = #[v0, v1, v2] := by cases args; simp_all
 obtain ⟨rfl, rfl⟩ := trodVars_none hV
 have k0 := h0
 have lt0 : ∀ x ∈ p0, x.block < W.heap.size := by obtain ⟨m, hm⟩ := k0; exact DataW.trod_lt m _ _ _ hm
 have k1 := h1
 have lt1 : ∀ x ∈ p1, x.block < W.heap.size := by obtain ⟨m, hm⟩ := k1; exact DataW.trod_lt m _ _ _ hm
 have k2 := h2
 have lt2 : ∀ x ∈ p2, x.block < W.heap.size := by obtain ⟨m, hm⟩ := k2; exact DataW.trod_lt m _ _ _ hm
 obtain ⟨z0, hz0, rfl, wz0⟩ := open_array_ints Try.underlying72 Try.underlying5 (by kernel_rfl) (by kernel_rfl) (hval 0 72 v0 rfl rfl) h0
 obtain ⟨a0_0, a0_1, rfl⟩ := list2 hz0
 obtain ⟨x1, rfl, w1⟩ := opens_OpB W base v1 d1 p1 (hval 1 58 v1 rfl rfl) h1
 obtain ⟨x2, rfl, w2⟩ := opens_OpB W base v2 d2 p2 (hval 2 58 v2 rfl rfl) h2
 clear hA0 hval0
 refine (walk_BitmapJoins a0_0 a0_1 x1 x2 W (wz0 _ (by simp)) (wz0 _ (by simp)) w1 w2).mono fun e W' ⟨he, bel⟩ => ?_
 subst he
 exact ⟨_, rfl, _, _, _, [], _, [], hW', trodAll_mk1 (shut_bool Try.underlying4 _), (trodAll_cons_mk (Below.trod laidOut (by kernel_rfl) (of_decide_eq_true (by kernel_rfl)) k0 bel lt0) (trodAll_cons_mk (Below.trod laidOut (by kernel_rfl) (of_decide_eq_true (by kernel_rfl)) k1 bel lt1) (trodAll_cons_mk (Below.trod laidOut (by kernel_rfl) (of_decide_eq_true (by kernel_rfl)) k2 bel lt2) trodAll_mk0))), rfl, bel.frame _, fun h => by cases h⟩
theorem over : Rows.bitmapJoinsRow.holds Try.pinned (OpenSpec.ofChange Rows.bitmapJoinsSpec) :=
 OpenClaim.holds_of_wide 12 Try.f12 rfl rfl rfl rfl rfl rfl rfl ⟨rfl, rfl, rfl, rfl, rfl⟩ rfl rfl rfl rfl rfl (by kernel_rfl) Try.func12 (by kernel_rfl)
  (of_decide_eq_true (by kernel_rfl)) (by unfold Func.isWrapper; first | (rw [if_pos (by decide +kernel)]; kernel_rfl) | (rw [if_neg (by decide +kernel)]; exact ⟨rfl, rfl⟩))
  (fun os started H enc _ => lifted os started H enc)
theorem proved : Rows.BitmapJoinsSaid := over
#print axioms proved
end Go.Proofs.Ytdgmlfpikgjnlaa.lBitmapJoins
end
