/-
  BitmapFinds: for every input the Go function answers true, and its arguments read afterwards as they read before. No condition.
-/
import Derived.Test.YtdgmlfpikgjnlaaKBitmapFindsb
set_option linter.unusedSimpArgs false
set_option linter.unusedVariables false
section
namespace Go.Proofs.Ytdgmlfpikgjnlaa
open Go.RowKit
set_option maxRecDepth 100000
section
variable {B : Option Addr} {d n : Nat} {l : List Bool} (hln : l.length = n) (hl : n ≤ 255) (w : World) (hS : Sees Value.bool w [] B l)
include hS hl hln
theorem dHasN (x : Int) : Calls Try.prog 39 [.slice B n d, .int .i64 x].toArray w fun e w' => e = .returned (.bool (Bm.has l x)) ∧ Only [] w w' := by
 subst hln; exact dHas w hS hl x
theorem dListN (x t : Int) : Calls Try.prog 41 [.slice B n d, .int .i64 x, .int .i64 t].toArray w fun e w' => ∃ B2 d2, e = .returned (.slice B2 (Bm.list l x t).length d2) ∧ Heap w [] [ownN 1 (.slice B2 (Bm.list l x t).length d2) (Bm.list l x t).length ((Bm.list l x t).map (Value.int .i64)) 3] w' := by
 subst hln; exact dList w hS hl x t
theorem dSetN (x : Int) (v : Bool) : Calls Try.prog 69 [.slice B n d, .int .i64 x, .bool v].toArray w fun e w' => ∃ B2 b2 d2, e = .returned (.slice B2 n d2) ∧ (n ≠ 0 → B2 = some ⟨b2, 0, none⟩) ∧ Heap w [] [vec Value.bool b2 (Bm.put l x v) 4] w' := by
 subst hln; exact dSet w hS hl x v
end
theorem SetOk.put {b : Nat} {A : Option Addr} {c : Nat} {l : List Bool} (h : SetOk b A c l) (x : Int) (v : Bool) : SetOk b A c (Bm.put l x v) :=
 ⟨by rw [show Bm.nw (Bm.put l x v) = Bm.nw l from by unfold Bm.nw; rw [Bm.put_len]]; exact h.row, by rw [Bm.put_len]; exact h.len⟩
theorem SetOk.new {b : Nat} {A : Option Addr} {c : Nat} {l : List Bool} (h : SetOk b A c l) : SetOk b A c (List.replicate l.length false) :=
 ⟨by rw [show Bm.nw (List.replicate l.length false) = Bm.nw l from by unfold Bm.nw; rw [List.length_replicate]]; exact h.row, by rw [List.length_replicate]; exact h.len⟩
/-- both sides hold the same set -/
def Both (n : Nat) (w : World) (v7 v8 : Value) (W : World) : Prop := ∃ (p b : Nat) (A : Option Addr) (c : Nat) (l : List Bool) (B : Option Addr) (b2 d : Nat), SetOk b A c l ∧ l.length = n ∧ (n ≠ 0 → B = some ⟨b2, 0, none⟩) ∧ v7 = pt p ∧ v8 = .slice B n d ∧ Heap w [] [grp (setE p b A c l), vec Value.bool b2 l 4] W
theorem played (lim : Int) (S : Option Addr) (q cq : Nat) (ops : List OpB) (w : World) (hlim : 0 ≤ lim ∧ lim ≤ 255) (hs : ScriptOpB w S ops) (hq : ops.length = q) (hq2 : q ≤ 9223372036854775807) :
  Calls Try.prog 37 [.int .u8 lim, .slice S q cq].toArray w fun e w' => ∃ v7 v8, e = .returned (.tuple [v7, v8, .bool true].toArray) ∧ Both lim.toNat w v7 v8 w' := by
 obtain ⟨n, rfl⟩ := Int.eq_ofNat_of_zero_le hlim.1
 rw [Int.toNat_natCast]
 have hn : n ≤ 255 := by omega
 have H := Heap.nil w
 have hdN := fun w => dNew n w hn
 have hbN := fun w => bNew n w hn
 refine k_in (N := 125) Try.func37 rfl rfl rfl ?_
 refine k_sg ?_
 refine s_run rfl rfl (rap rfl) ?_
 refine s_run rfl rfl (ras rfl) ?_
 refine s_run rfl rfl (rab rfl) ?_
 refine k_nc ?_
 refine k_sg ?_
 refine s_run rfl rfl (rmi rfl) ?_
 refine s_run rfl rfl (r_cv rfl (by kernel_rfl) Try.underlying3 (wI (by omega))) ?_
 refine s_call rfl (hbN _) (ca66 rfl) ?_
 rintro e W1 ⟨p, b, A, c, rfl, hk, H'⟩
 refine ⟨_, rfl, ?_⟩
 have H := H.more (A := [grp _]) (grp_heap H'); clear H'
 refine s_run rfl rfl (rmi rfl) ?_
 refine s_run rfl rfl (r_cv rfl (by kernel_rfl) Try.underlying3 (wI (by omega))) ?_
 refine s_call rfl (hdN _) (ca68 rfl) ?_
 rintro e W1 ⟨b2, rfl, H'⟩
 refine ⟨_, rfl, ?_⟩
 have H := H.more H'; clear H'
 refine s_run rfl rfl (rap rfl) ?_
 refine s_run rfl rfl (ras rfl) ?_
 refine k_nc ?_
 refine k_seq ?_
 refine k_sg ?_
 refine s_run rfl rfl (rai rfl) ?_
 refine k_nc ?_
 refine k_b ?_
 have hB : Both n w (pt p) (.slice (some ⟨b2, 0, none⟩) n n) _ := ⟨p, b, A, c, _, _, b2, n, hk, by simp, fun _ => rfl, rfl, rfl, H.order [1, 0] rfl rfl⟩
 clear H hk
 refine k_loop (fun z f W => ∃ i : Nat, i ≤ q ∧ i ≤ 200 ∧ z = 200 - i ∧ f 0 = .int .u8 n ∧ f 1 = .slice S q cq ∧ f 9 = .int .i64 i ∧ Both n w (f 7) (f 8) W) 200 ⟨0, by omega, by omega, rfl, rfl, rfl, rfl, hB⟩ ?_
 clear hB
 rintro z f W ⟨i, hiq, hi200, rfl, f0, f1, f9, p, b, A, c, l, B, b2, d, hk, hln, hB, f7, f8, H⟩
 obtain ⟨f, rfl⟩ := live5 f0 f1 f7 f8 f9
 clear f0 f1 f7 f8 f9
 by_cases hlt : i < q
 ·by_cases h200 : i < 200
  ·obtain ⟨sb, so, rfl, hrd⟩ := hs.1 (by omega)
   obtain ⟨op, hop⟩ : ∃ op, ops[i]? = some op := ⟨_, List.getElem?_eq_getElem (by omega)⟩
   have hcell := hrd i op hop
   have hok := hs.2 op (List.mem_of_getElem? hop)
   obtain ⟨k, x⟩ := op
   have hx := bounds_i64 hok.w1
   have hkk := bounds_i64 hok.w0
   dsimp only at hx hkk
   have hHas := fun {W : World} (hS : Sees Value.bool W [] B l) => dHasN (d := d) hln hn W hS x
   refine k_seq ?_
   refine k_sg ?_
   refine s_run rfl rfl (rmi rfl) ?_
   refine s_run rfl rfl (rms rfl) ?_
   refine s_run rfl rfl (r_len rfl Try.underlying58) ?_
   refine s_run rfl rfl (r_lssT rfl rfl (by omega)) ?_
   refine s_run rfl rfl (rmb rfl) ?_
   refine s_run rfl (g_on 24 (by kernel_rfl) rfl) (rmi rfl) ?_
   refine s_run rfl (g_on 24 (by kernel_rfl) rfl) (r_lssT rfl rfl (by omega)) ?_
   refine s_run rfl rfl (r_pkT (v := .bool _) rfl rfl) ?_
   refine k_nc ?_
   refine k_t rfl ?_
   refine k_skip ?_
   refine c_norm ?_
   refine k_seq ?_
   refine k_b ?_
   refine k_sg ?_
   refine s_run rfl rfl (rms rfl) ?_
   refine s_run rfl rfl (rmi rfl) ?_
   refine s_run rfl rfl (r_ix (i := i) rfl rfl (by omega) (by omega) Try.underlying58 sz94) ?_
   refine s_run rfl rfl (r_lA (enc := fun v : Value => v) (zs := OpB.cells ⟨k, x⟩) (hcell.later H.only (by simp)) rfl rfl ag94 sz94) ?_
   refine s_al H rfl inf94 ?_
   intro p10 _ H'; clear H; have H := H'; clear H'
   refine s_sw H 0 rfl rfl rfl rfl rfl rfl rfl sz94 ?_
   clear H; intro _ H; simp only [jA, jB, jC, jD, jE, jF, jG, jH, jI, jJ, jK, Nat.reduceAdd] at H
   refine k_nc ?_
   refine k_sg ?_
   refine s_run rfl rfl (rms rfl) ?_
   refine s_run rfl rfl (r_fa0 rfl fo94_1) ?_
   refine s_run rfl rfl (r_lo H 0 rfl rfl rfl ag3) ?_
   refine s_call rfl (hHas (H.seesV 2 rfl (by rw [hln]; exact hB))) (ca39 rfl) ?_
   rintro e W1 ⟨rfl, H'⟩
   refine ⟨_, rfl, ?_⟩
   have H := H.same H'; clear H'
   refine s_run rfl rfl (rab rfl) ?_
   refine k_nc ?_
   refine k_seq ?_
   refine k_sg ?_
   refine s_run rfl rfl (r_fa0 rfl fo94_0) ?_
   refine s_run rfl rfl (r_lo H 0 rfl rfl rfl ag3) ?_
   refine k_nc ?_
   refine k_cut (fun f W => f 0 = .int .u8 n ∧ f 1 = .slice (some ⟨sb, so, none⟩) q cq ∧ f 9 = .int .i64 i ∧ Both n w (f 7) (f 8) W) ?_ ?_
   ·have hlp : ∀ v, (Bm.put l x v).length = n := fun v => by rw [Bm.put_len]; exact hln
    have hSet := fun {W : World} (hS : Sees Value.bool W [] B l) (v : Bool) => dSetN (d := d) hln hn W hS x v
    have hA := fun {W : World} hE => bAdd (p := p) hk W hE x
    have hD := fun {W : World} hE => bDrop (p := p) hk W hE x
    clear hHas
    by_cases k0 : k = 0
    ·by_cases hin : 0 ≤ x ∧ x < l.length
     ·cases hat : Bm.has l x with
      | true =>
       simp only [hat, Bool.not_true, Bool.and_false] at hA
       refine k_b ?_
       refine k_sg ?_
       refine s_run rfl rfl (r_eqlT rfl rfl (by omega)) ?_
       refine s_run rfl rfl (rab rfl) ?_
       refine k_nc ?_
       refine k_t rfl ?_
       refine k_sg ?_
       refine s_run rfl rfl (rms rfl) ?_
       refine s_run rfl rfl (r_fa0 rfl fo94_1) ?_
       refine s_run rfl rfl (r_lo H 0 rfl rfl rfl ag3) ?_
       refine s_call rfl (hSet (H.seesV 2 rfl (by rw [hln]; exact hB)) true) (ca69 rfl) ?_
       rintro e W1 ⟨B2, b3, d2, rfl, hB2, H'⟩
       refine ⟨_, rfl, ?_⟩
       have H := H.more H'; clear H'
       refine s_run rfl rfl (ras rfl) ?_
       refine k_nc ?_
       refine k_sg ?_
       refine s_run rfl rfl (rmp rfl) ?_
       refine s_run rfl rfl (r_fa0 rfl fo94_1) ?_
       refine s_run rfl rfl (r_lo H 1 rfl rfl rfl ag3) ?_
       refine s_call rfl (hA (H.grp_ents 2 rfl)) (ca67 rfl) ?_
       rintro e W1 ⟨rfl, H'⟩
       refine ⟨_, rfl, ?_⟩
       have H := H.grp_at 2 rfl H'; clear H'
       refine s_run rfl rfl (rmb rfl) ?_
       refine s_run rfl rfl (r_notT rfl) ?_
       refine s_run rfl rfl (rmb rfl) ?_
       refine s_off rfl (g_off 52 (by kernel_rfl) rfl rfl) ?_
       refine s_off rfl (g_off 52 (by kernel_rfl) rfl rfl) ?_
       refine s_off rfl (g_off 52 (by kernel_rfl) rfl rfl) ?_
       refine s_off rfl (g_off 52 (by kernel_rfl) rfl rfl) ?_
       refine s_run rfl rfl (r_pkF (v := .bool _) rfl rfl) ?_
       refine s_run rfl rfl (r_bneq rfl rfl rfl Try.underlying4) ?_
       refine k_nc ?_
       refine k_f rfl ?_
       refine k_skip ?_
       refine b_norm ?_
       refine k_met ?_
       exact ⟨rfl, rfl, rfl, p, b, A, c, _, B2, b3, d2, hk.put x true, hlp true, hB2, rfl, rfl, (H.order [2, 0, 1, 3] rfl rfl : Heap w [] ([_, _] ++ [_, _]) _).drops⟩
      | false =>
       simp only [hat, decide_eq_true hin, Bool.not_false, Bool.and_true] at hA
       have hH2 := fun {W : World} {B2 : Option Addr} {d2 : Nat} (hS : Sees Value.bool W [] B2 (Bm.put l x true)) => dHasN (d := d2) (hlp true) hn W hS x
       rw [Bm.has_put l x x true hin, if_pos rfl] at hH2
       refine k_b ?_
       refine k_sg ?_
       refine s_run rfl rfl (r_eqlT rfl rfl (by omega)) ?_
       refine s_run rfl rfl (rab rfl) ?_
       refine k_nc ?_
       refine k_t rfl ?_
       refine k_sg ?_
       refine s_run rfl rfl (rms rfl) ?_
       refine s_run rfl rfl (r_fa0 rfl fo94_1) ?_
       refine s_run rfl rfl (r_lo H 0 rfl rfl rfl ag3) ?_
       refine s_call rfl (hSet (H.seesV 2 rfl (by rw [hln]; exact hB)) true) (ca69 rfl) ?_
       rintro e W1 ⟨B2, b3, d2, rfl, hB2, H'⟩
       refine ⟨_, rfl, ?_⟩
       have H := H.more H'; clear H'
       refine s_run rfl rfl (ras rfl) ?_
       refine k_nc ?_
       refine k_sg ?_
       refine s_run rfl rfl (rmp rfl) ?_
       refine s_run rfl rfl (r_fa0 rfl fo94_1) ?_
       refine s_run rfl rfl (r_lo H 1 rfl rfl rfl ag3) ?_
       refine s_call rfl (hA (H.grp_ents 2 rfl)) (ca67 rfl) ?_
       rintro e W1 ⟨rfl, H'⟩
       refine ⟨_, rfl, ?_⟩
       have H := H.grp_at 2 rfl H'; clear H'
       refine s_run rfl rfl (rmb rfl) ?_
       refine s_run rfl rfl (r_notF rfl) ?_
       refine s_run rfl rfl (rmb rfl) ?_
       refine s_run rfl (g_on 52 (by kernel_rfl) rfl) (rms rfl) ?_
       refine s_run rfl (g_on 52 (by kernel_rfl) rfl) (r_fa0 rfl fo94_1) ?_
       refine s_run rfl (g_on 52 (by kernel_rfl) rfl) (r_lo H 1 rfl rfl rfl ag3) ?_
       refine s_call (g_on 52 (by kernel_rfl) rfl) (hH2 (H.seesV 0 rfl (by rw [hlp]; exact hB2))) (ca39 rfl) ?_
       rintro e W1 ⟨rfl, H'⟩
       refine ⟨_, rfl, ?_⟩
       have H := H.same H'; clear H'
       refine s_run rfl rfl (r_pkT (v := .bool _) rfl rfl) ?_
       refine s_run rfl rfl (r_bneq rfl rfl rfl Try.underlying4) ?_
       refine k_nc ?_
       refine k_f rfl ?_
       refine k_skip ?_
       refine b_norm ?_
       refine k_met ?_
       exact ⟨rfl, rfl, rfl, p, b, A, c, _, B2, b3, d2, hk.put x true, hlp true, hB2, rfl, rfl, (H.order [2, 0, 1, 3] rfl rfl : Heap w [] ([_, _] ++ [_, _]) _).drops⟩
     ·have hat := Bm.has_out hin
      rw [hat]
      simp only [hat, decide_eq_false hin, Bool.false_and] at hA
      have hH2 := fun {W : World} {B2 : Option Addr} {d2 : Nat} (hS : Sees Value.bool W [] B2 (Bm.put l x true)) => dHasN (d := d2) (hlp true) hn W hS x
      rw [show Bm.has (Bm.put l x true) x = false by rw [Bm.put_out true hin]; exact hat] at hH2
      refine k_b ?_
      refine k_sg ?_
      refine s_run rfl rfl (r_eqlT rfl rfl (by omega)) ?_
      refine s_run rfl rfl (rab rfl) ?_
      refine k_nc ?_
      refine k_t rfl ?_
      refine k_sg ?_
      refine s_run rfl rfl (rms rfl) ?_
      refine s_run rfl rfl (r_fa0 rfl fo94_1) ?_
      refine s_run rfl rfl (r_lo H 0 rfl rfl rfl ag3) ?_
      refine s_call rfl (hSet (H.seesV 2 rfl (by rw [hln]; exact hB)) true) (ca69 rfl) ?_
      rintro e W1 ⟨B2, b3, d2, rfl, hB2, H'⟩
      refine ⟨_, rfl, ?_⟩
      have H := H.more H'; clear H'
      refine s_run rfl rfl (ras rfl) ?_
      refine k_nc ?_
      refine k_sg ?_
      refine s_run rfl rfl (rmp rfl) ?_
      refine s_run rfl rfl (r_fa0 rfl fo94_1) ?_
      refine s_run rfl rfl (r_lo H 1 rfl rfl rfl ag3) ?_
      refine s_call rfl (hA (H.grp_ents 2 rfl)) (ca67 rfl) ?_
      rintro e W1 ⟨rfl, H'⟩
      refine ⟨_, rfl, ?_⟩
      have H := H.grp_at 2 rfl H'; clear H'
      refine s_run rfl rfl (rmb rfl) ?_
      refine s_run rfl rfl (r_notF rfl) ?_
      refine s_run rfl rfl (rmb rfl) ?_
      refine s_run rfl (g_on 52 (by kernel_rfl) rfl) (rms rfl) ?_
      refine s_run rfl (g_on 52 (by kernel_rfl) rfl) (r_fa0 rfl fo94_1) ?_
      refine s_run rfl (g_on 52 (by kernel_rfl) rfl) (r_lo H 1 rfl rfl rfl ag3) ?_
      refine s_call (g_on 52 (by kernel_rfl) rfl) (hH2 (H.seesV 0 rfl (by rw [hlp]; exact hB2))) (ca39 rfl) ?_
      rintro e W1 ⟨rfl, H'⟩
      refine ⟨_, rfl, ?_⟩
      have H := H.same H'; clear H'
      refine s_run rfl rfl (r_pkT (v := .bool _) rfl rfl) ?_
      refine s_run rfl rfl (r_bneq rfl rfl rfl Try.underlying4) ?_
      refine k_nc ?_
      refine k_f rfl ?_
      refine k_skip ?_
      refine b_norm ?_
      refine k_met ?_
      exact ⟨rfl, rfl, rfl, p, b, A, c, _, B2, b3, d2, hk.put x true, hlp true, hB2, rfl, rfl, (H.order [2, 0, 1, 3] rfl rfl : Heap w [] ([_, _] ++ [_, _]) _).drops⟩
    ·by_cases k1 : k = 1
     ·refine k_b ?_
      refine k_sg ?_
      refine s_run rfl rfl (r_eqlF rfl rfl (by omega)) ?_
      refine s_run rfl rfl (rab rfl) ?_
      refine k_nc ?_
      refine k_f rfl ?_
      refine k_sg ?_
      refine s_run rfl rfl (r_eqlT rfl rfl (by omega)) ?_
      refine s_run rfl rfl (rab rfl) ?_
      refine k_nc ?_
      refine k_t rfl ?_
      refine k_sg ?_
      refine s_run rfl rfl (rms rfl) ?_
      refine s_run rfl rfl (r_fa0 rfl fo94_1) ?_
      refine s_run rfl rfl (r_lo H 0 rfl rfl rfl ag3) ?_
      refine s_call rfl (hSet (H.seesV 2 rfl (by rw [hln]; exact hB)) false) (ca69 rfl) ?_
      rintro e W1 ⟨B2, b3, d2, rfl, hB2, H'⟩
      refine ⟨_, rfl, ?_⟩
      have H := H.more H'; clear H'
      refine s_run rfl rfl (ras rfl) ?_
      refine k_nc ?_
      refine k_sg ?_
      refine s_run rfl rfl (rmp rfl) ?_
      refine s_run rfl rfl (r_fa0 rfl fo94_1) ?_
      refine s_run rfl rfl (r_lo H 1 rfl rfl rfl ag3) ?_
      refine s_call rfl (hD (H.grp_ents 2 rfl)) (ca70 rfl) ?_
      rintro e W1 ⟨rfl, H'⟩
      refine ⟨_, rfl, ?_⟩
      have H := H.grp_at 2 rfl H'; clear H'
      refine s_run rfl rfl (rmb rfl) ?_
      refine s_run rfl rfl (r_bneq rfl rfl rfl Try.underlying4) ?_
      refine k_nc ?_
      refine k_f rfl ?_
      refine k_skip ?_
      refine b_norm ?_
      refine k_met ?_
      exact ⟨rfl, rfl, rfl, p, b, A, c, _, B2, b3, d2, hk.put x false, hlp false, hB2, rfl, rfl, (H.order [2, 0, 1, 3] rfl rfl : Heap w [] ([_, _] ++ [_, _]) _).drops⟩
     ·by_cases k2 : k = 2
      ·have hC := fun {W : World} hE => bClear (p := p) hk W hE
       have hkn := hk.new
       rw [hln] at hC hkn
       refine k_b ?_
       refine k_sg ?_
       refine s_run rfl rfl (r_eqlF rfl rfl (by omega)) ?_
       refine s_run rfl rfl (rab rfl) ?_
       refine k_nc ?_
       refine k_f rfl ?_
       refine k_sg ?_
       refine s_run rfl rfl (r_eqlF rfl rfl (by omega)) ?_
       refine s_run rfl rfl (rab rfl) ?_
       refine k_nc ?_
       refine k_f rfl ?_
       refine k_sg ?_
       refine s_run rfl rfl (r_eqlT rfl rfl (by omega)) ?_
       refine s_run rfl rfl (rab rfl) ?_
       refine k_nc ?_
       refine k_t rfl ?_
       refine k_sg ?_
       refine s_run rfl rfl (rmi rfl) ?_
       refine s_run rfl rfl (r_cv rfl (by kernel_rfl) Try.underlying3 (wI (by omega))) ?_
       refine s_call rfl (hdN _) (ca68 rfl) ?_
       rintro e W1 ⟨b3, rfl, H'⟩
       refine ⟨_, rfl, ?_⟩
       have H := H.more H'; clear H'
       refine s_run rfl rfl (ras rfl) ?_
       refine k_nc ?_
       refine k_rg ?_
       refine s_run rfl rfl (rmp rfl) ?_
       refine s_call rfl (hC (H.grp_ents 2 rfl)) (ca71 rfl) ?_
       rintro e W1 ⟨rfl, H'⟩
       refine ⟨_, rfl, ?_⟩
       have H := H.grp_at 2 rfl H'; clear H'
       refine k_nil ?_
       refine b_norm ?_
       refine k_met ?_
       exact ⟨rfl, rfl, rfl, p, b, A, c, _, _, b3, n, hkn, by simp, fun _ => rfl, rfl, rfl, (H.order [2, 0, 1, 3] rfl rfl : Heap w [] ([_, _] ++ [_, _]) _).drops⟩
      ·by_cases k3 : k = 3
       ·have hD3 := fun {W : World} hE => bDrop (p := p) (hk.put x true) W hE (bits .xor .i64 x 1)
        refine k_b ?_
        refine k_sg ?_
        refine s_run rfl rfl (r_eqlF rfl rfl (by omega)) ?_
        refine s_run rfl rfl (rab rfl) ?_
        refine k_nc ?_
        refine k_f rfl ?_
        refine k_sg ?_
        refine s_run rfl rfl (r_eqlF rfl rfl (by omega)) ?_
        refine s_run rfl rfl (rab rfl) ?_
        refine k_nc ?_
        refine k_f rfl ?_
        refine k_sg ?_
        refine s_run rfl rfl (r_eqlF rfl rfl (by omega)) ?_
        refine s_run rfl rfl (rab rfl) ?_
        refine k_nc ?_
        refine k_f rfl ?_
        refine k_sg ?_
        refine s_run rfl rfl (r_eqlT rfl rfl (by omega)) ?_
        refine s_run rfl rfl (rab rfl) ?_
        refine k_nc ?_
        refine k_t rfl ?_
        refine k_sg ?_
        refine s_run rfl rfl (rmp rfl) ?_
        refine s_call rfl (bClone hk _ (H.grp_ents 1 rfl)) (ca72 rfl) ?_
        rintro e W1 ⟨p', b', A', c', rfl, hk', H'⟩
        refine ⟨_, rfl, ?_⟩
        have H := H.more (A := [grp _]) (grp_heap H'); clear H'
        refine s_run rfl rfl (rap rfl) ?_
        refine k_nc ?_
        refine k_seq ?_
        refine k_sg ?_
        refine s_run rfl rfl (rmp rfl) ?_
        refine s_run rfl rfl (r_ptnilF rfl rfl Try.underlying59) ?_
        refine k_nc ?_
        refine k_f rfl ?_
        refine k_skip ?_
        refine c_norm ?_
        refine k_sg ?_
        refine s_run rfl rfl (rmp rfl) ?_
        refine s_run rfl rfl (r_fa0 rfl fo94_1) ?_
        refine s_run rfl rfl (r_lo H 1 rfl rfl rfl ag3) ?_
        refine s_call rfl (hA (H.grp_ents 2 rfl)) (ca67 rfl) ?_
        rintro e W1 ⟨rfl, H'⟩
        refine ⟨_, rfl, ?_⟩
        have H := H.grp_at 2 rfl H'; clear H'
        refine k_nc ?_
        refine k_sg ?_
        refine s_run rfl rfl (rmp rfl) ?_
        refine s_run rfl rfl (r_fa0 rfl fo94_1) ?_
        refine s_run rfl rfl (r_lo H 1 rfl rfl rfl ag3) ?_
        refine s_run rfl rfl (r_xor rfl rfl rfl) ?_
        refine s_call rfl (hD3 (H.grp_ents 2 rfl)) (ca70 rfl) ?_
        rintro e W1 ⟨rfl, H'⟩
        refine ⟨_, rfl, ?_⟩
        have H := H.grp_at 2 rfl H'; clear H'
        refine k_nc ?_
        refine k_rg ?_
        refine s_run rfl rfl (rmp rfl) ?_
        refine s_run rfl rfl (rap rfl) ?_
        refine k_nil ?_
        refine b_norm ?_
        refine k_met ?_
        exact ⟨rfl, rfl, rfl, p', b', A', c', _, B, b2, d, hk', hln, hB, rfl, rfl, (H.order [0, 3, 1, 2] rfl rfl : Heap w [] ([_, _] ++ [_, _]) _).drops⟩
       ·refine k_b ?_
        refine k_sg ?_
        refine s_run rfl rfl (r_eqlF rfl rfl (by omega)) ?_
        refine s_run rfl rfl (rab rfl) ?_
        refine k_nc ?_
        refine k_f rfl ?_
        refine k_sg ?_
        refine s_run rfl rfl (r_eqlF rfl rfl (by omega)) ?_
        refine s_run rfl rfl (rab rfl) ?_
        refine k_nc ?_
        refine k_f rfl ?_
        refine k_sg ?_
        refine s_run rfl rfl (r_eqlF rfl rfl (by omega)) ?_
        refine s_run rfl rfl (rab rfl) ?_
        refine k_nc ?_
        refine k_f rfl ?_
        refine k_sg ?_
        refine s_run rfl rfl (r_eqlF rfl rfl (by omega)) ?_
        refine s_run rfl rfl (rab rfl) ?_
        refine k_nc ?_
        refine k_f rfl ?_
        refine k_skip ?_
        refine b_norm ?_
        refine k_met ?_
        exact ⟨rfl, rfl, rfl, p, b, A, c, _, B, b2, d, hk, hln, hB, rfl, rfl, (H.order [1, 2, 0] rfl rfl : Heap w [] ([_, _] ++ [_]) _).drops⟩
   ·clear H hk hln hB hHas hcell hok hx hkk
    rintro f W ⟨f0, f1, f9, p, b, A, c, l, B, b2, d, hk, hln, hB, f7, f8, H⟩
    obtain ⟨f, rfl⟩ := live5 f0 f1 f7 f8 f9
    clear f0 f1 f7 f8 f9
    have hcnt := Bm.cnt_eq l
    have hel := Bm.elems_len l
    have hli := Bm.list_all l
    rw [hln] at hli
    have hbd : Ints .i64 (Bm.elems l) := fun y hy => by
     rw [← hli, ← Bm.listTo_big l 0 n l.length (Nat.le_refl _)] at hy
     have := Bm.listTo_mem l 0 n _ hy
     exact wf_i64 (by omega)
    have hDL := fun {W : World} (hS : Sees Value.bool W [] B l) => dListN (d := d) hln hn W hS 0 n
    rw [hli] at hDL
    refine c_norm ?_
    refine k_sg ?_
    refine s_run rfl rfl (rms rfl) ?_
    refine s_run rfl rfl (rms rfl) ?_
    refine s_run rfl rfl (r_len rfl Try.underlying60) ?_
    refine s_call rfl (hDL (H.seesV 1 rfl (by rw [hln]; exact hB))) (ca41 rfl) ?_
    rintro e W1 ⟨B3, d3, rfl, H'⟩
    refine ⟨_, rfl, ?_⟩
    have H := H.more H'; clear H'
    refine s_run rfl rfl (ras rfl) ?_
    refine k_nc ?_
    refine k_sg ?_
    refine s_run rfl rfl (rmp rfl) ?_
    refine s_call rfl (bLen _ (H.grp_ents 1 rfl)) (ca73 rfl) ?_
    rintro e W1 ⟨rfl, H'⟩
    refine ⟨_, rfl, ?_⟩
    have H := H.same H'; clear H'
    refine s_run rfl rfl (rms rfl) ?_
    refine s_run rfl rfl (r_len rfl Try.underlying22) ?_
    refine s_run rfl rfl (r_neqF rfl rfl (by omega)) ?_
    refine s_run rfl rfl (rmb rfl) ?_
    refine s_run rfl (g_on 109 (by kernel_rfl) rfl) (rmp rfl) ?_
    refine s_call (g_on 109 (by kernel_rfl) rfl) (bList hk _ (H.grp_ents 1 rfl)) (ca74 rfl) ?_
    rintro e W1 ⟨B4, d4, rfl, H'⟩
    refine ⟨_, rfl, ?_⟩
    have H := H.more H'; clear H'
    refine s_run rfl (g_on 109 (by kernel_rfl) rfl) (rms rfl) ?_
    refine s_call (g_on 109 (by kernel_rfl) rfl) (ints_sees _ _ _ _ _ _ (Bm.elems l) (Bm.elems l) _ (H.own_sees 0 rfl) (H.own_sees 1 rfl) rfl rfl hbd hbd (by unfold maxLen; omega) (by unfold maxLen; omega)) (ca33 rfl) ?_
    rintro e W1 ⟨rfl, H'⟩
    refine ⟨_, rfl, ?_⟩
    have H := H.same H'; clear H'; rw [eqB_yes _ _ rfl]
    refine s_run rfl (g_on 109 (by kernel_rfl) rfl) (r_notT rfl) ?_
    refine s_run rfl rfl (r_pkF (v := .bool _) rfl rfl) ?_
    refine k_nc ?_
    refine k_f rfl ?_
    refine k_skip ?_
    refine b_norm ?_
    refine c_norm ?_
    refine k_rg ?_
    refine s_run rfl rfl (rmi rfl) ?_
    refine s_run rfl rfl (r_add rfl rfl (wI (by omega))) ?_
    refine s_run rfl rfl (rai rfl) ?_
    refine k_nil ?_
    refine c_round ?_
    refine ⟨_, _, ?_, rfl, i + 1, by omega, by omega, rfl, rfl, rfl, rfl, p, b, A, c, l, B, b2, d, hk, hln, hB, rfl, rfl, (H.order [2, 3, 0, 1] rfl rfl : Heap w [] ([_, _] ++ [_, _]) _).drops⟩
    omega
  ·refine k_seq ?_
   refine k_sg ?_
   refine s_run rfl rfl (rmi rfl) ?_
   refine s_run rfl rfl (rms rfl) ?_
   refine s_run rfl rfl (r_len rfl Try.underlying58) ?_
   refine s_run rfl rfl (r_lssT rfl rfl (by omega)) ?_
   refine s_run rfl rfl (rmb rfl) ?_
   refine s_run rfl (g_on 24 (by kernel_rfl) rfl) (rmi rfl) ?_
   refine s_run rfl (g_on 24 (by kernel_rfl) rfl) (r_lssF rfl rfl (by omega)) ?_
   refine s_run rfl rfl (r_pkT (v := .bool _) rfl rfl) ?_
   refine k_nc ?_
   refine k_f rfl ?_
   refine k_exit ?_
   refine c_exit ?_
   refine c_exit ?_
   refine b_hit ?_
   refine c_norm ?_
   refine k_sg ?_
   refine s_run rfl rfl (rmp rfl) ?_
   refine s_run rfl rfl (rms rfl) ?_
   refine s_run rfl rfl (rmp rfl) ?_
   refine s_call rfl (bLimit _ (H.grp_ents 0 rfl)) (ca75 rfl) ?_
   rintro e W1 ⟨rfl, H'⟩
   refine ⟨_, rfl, ?_⟩
   have H := H.same H'; clear H'
   refine s_run rfl rfl (rmi rfl) ?_
   refine s_run rfl rfl (r_cv rfl (by kernel_rfl) Try.underlying3 (wI (by omega))) ?_
   refine s_run rfl rfl (r_eqlT rfl rfl (by omega)) ?_
   refine s_run rfl rfl (rap rfl) ?_
   refine s_run rfl rfl (ras rfl) ?_
   refine s_run rfl rfl (rab rfl) ?_
   refine k_nc ?_
   refine k_ret ?_
   refine fin3r (v := .pointer _) (v2 := .slice _ _ _) (v3 := .bool _) rfl rfl rfl rfl ?_
   exact ⟨_, _, rfl, p, b, A, c, l, B, b2, d, hk, hln, hB, rfl, rfl, H⟩
 ·refine k_seq ?_
  refine k_sg ?_
  refine s_run rfl rfl (rmi rfl) ?_
  refine s_run rfl rfl (rms rfl) ?_
  refine s_run rfl rfl (r_len rfl Try.underlying58) ?_
  refine s_run rfl rfl (r_lssF rfl rfl (by omega)) ?_
  refine s_run rfl rfl (rmb rfl) ?_
  refine s_off rfl (g_off 24 (by kernel_rfl) rfl rfl) ?_
  refine s_off rfl (g_off 24 (by kernel_rfl) rfl rfl) ?_
  refine s_run rfl rfl (r_pkF (v := .bool _) rfl rfl) ?_
  refine k_nc ?_
  refine k_f rfl ?_
  refine k_exit ?_
  refine c_exit ?_
  refine c_exit ?_
  refine b_hit ?_
  refine c_norm ?_
  refine k_sg ?_
  refine s_run rfl rfl (rmp rfl) ?_
  refine s_run rfl rfl (rms rfl) ?_
  refine s_run rfl rfl (rmp rfl) ?_
  refine s_call rfl (bLimit _ (H.grp_ents 0 rfl)) (ca75 rfl) ?_
  rintro e W1 ⟨rfl, H'⟩
  refine ⟨_, rfl, ?_⟩
  have H := H.same H'; clear H'
  refine s_run rfl rfl (rmi rfl) ?_
  refine s_run rfl rfl (r_cv rfl (by kernel_rfl) Try.underlying3 (wI (by omega))) ?_
  refine s_run rfl rfl (r_eqlT rfl rfl (by omega)) ?_
  refine s_run rfl rfl (rap rfl) ?_
  refine s_run rfl rfl (ras rfl) ?_
  refine s_run rfl rfl (rab rfl) ?_
  refine k_nc ?_
  refine k_ret ?_
  refine fin3r (v := .pointer _) (v2 := .slice _ _ _) (v3 := .bool _) rfl rfl rfl rfl ?_
  exact ⟨_, _, rfl, p, b, A, c, l, B, b2, d, hk, hln, hB, rfl, rfl, H⟩
end Go.Proofs.Ytdgmlfpikgjnlaa
end

section
namespace Go.Proofs.Ytdgmlfpikgjnlaa
open Go.RowKit
set_option maxRecDepth 100000
end Go.Proofs.Ytdgmlfpikgjnlaa
end

section
namespace Go.Proofs.Ytdgmlfpikgjnlaa.Bm
open Go.RowKit
theorem listTo_pre (l : List Bool) (f t : Int) (k m : Nat) (h : k ≤ m) : listTo l f t k <+: listTo l f t m := by
 obtain ⟨d, rfl⟩ := Nat.exists_eq_add_of_le h
 induction d with
 | zero => exact List.prefix_refl _
 | succ d ih => exact (ih (by omega)).trans (by rw [← Nat.add_assoc, listTo_succ]; exact List.prefix_append _ _)
theorem next_list {l : List Bool} {x r : Int} {ok : Bool} (h : IsNext l x.toNat r ok) : (ok = true ∧ ∃ t, list l x l.length = r :: t) ∨ (ok = false ∧ r = 0 ∧ list l x l.length = []) := by
 have e0 : ∀ k, (∀ i, x.toNat ≤ i → i < k → at_ l i = false) → listTo l x l.length k = [] := by
  intro k hk
  have : listTo l x l.length k = listTo l x l.length 0 := listTo_skip l x _ 0 k (Nat.zero_le _) fun i _ h2 => by
   by_cases g : x ≤ (i : Int)
   ·exact .inl (hk i (by omega) h2)
   ·exact .inr (.inl (by omega))
  rw [this]; rfl
 rcases h with ⟨h1, h2, h3⟩ | ⟨h1, j, rfl, h3, h4, h5⟩
 ·refine .inr ⟨h1, h2, ?_⟩
  rw [← listTo_big l x l.length l.length (Nat.le_refl _)]
  exact e0 _ fun i g _ => h3 i g
 ·refine .inl ⟨h1, ?_⟩
  have hj := at_lt h4
  have e1 : listTo l x l.length (j + 1) = [(j : Int)] := by
   rw [listTo_succ, e0 j h5, if_pos ⟨h4, by omega, by omega⟩]; rfl
  have := listTo_pre l x l.length (j + 1) l.length (by omega)
  rw [e1, listTo_big l x l.length l.length (Nat.le_refl _)] at this
  obtain ⟨t, ht⟩ := this
  exact ⟨t, by rw [← ht]; rfl⟩
theorem pre_last {xs pre : List Int} {x : Int} (h : pre ++ [x] <+: xs) : pre <+: xs ∧ xs[pre.length]? = some x := by
 obtain ⟨t, rfl⟩ := h
 refine ⟨⟨[x] ++ t, by simp⟩, by simp⟩
end Go.Proofs.Ytdgmlfpikgjnlaa.Bm
end

section
namespace Go.Proofs.Ytdgmlfpikgjnlaa
open Go.RowKit
set_option maxRecDepth 100000
set_option maxHeartbeats 2000000
def fbL (n0 n1 n2 : Int) (xs : List Int) (p5 p6 p14 p15 b4 : Nat) (B4 : Option Addr) (d4 : Nat) (k : Nat) (v : Bool) : List Ent :=
 [blk p15 [.int .i64 k] 3, blk p14 [.slice B4 xs.length d4] 22, vec (Value.int .i64) b4 xs 3, blk p6 [.bool v] 4, blk p5 [.int .i64 n0, .int .i64 n1, .int .i64 n2] 66]
theorem fbL_cel (n0 n1 n2 : Int) (xs : List Int) (p5 p6 p14 p15 b4 : Nat) (B4 : Option Addr) (d4 : Nat) (k : Nat) (v : Bool) : ∀ E ∈ fbL n0 n1 n2 xs p5 p6 p14 p15 b4 B4 d4 k v, Cel E :=
 cl_cons (cl_blk _ _ _) (cl_cons (cl_blk _ _ _) (cl_cons (cl_vec _ _ _ _) (cl_cons (cl_blk _ _ _) (cl_cons (cl_blk _ _ _) cl_nil))))
theorem walk_BitmapFinds (lim : Int) (x : Option Addr × Nat × Nat × List OpB) (n0 n1 n2 : Int) (w : World) (w0 : (Lit.int .u8 lim).wf = true) (hx : ScriptOpB w x.1 x.2.2.2 ∧ x.2.2.2.length = x.2.1 ∧ x.2.1 ≤ 9223372036854775807) (w1 : (Lit.int .i64 n0).wf = true) (w2 : (Lit.int .i64 n1).wf = true) (w3 : (Lit.int .i64 n2).wf = true) :
  Calls Try.prog 11 [.int .u8 lim, .slice x.1 x.2.1 x.2.2.1, .agg [.int .i64 n0, .int .i64 n1, .int .i64 n2].toArray].toArray w fun e w' => e = .returned (.bool true) ∧ Below w.heap.size w w' := by
 obtain ⟨S, q, cq, ops⟩ := x
 obtain ⟨hs, hl, hq⟩ := hx
 dsimp only at hs hl hq ⊢
 have g0 := bounds_u8 w0
 have H := Heap.nil w
 have hP := fun W (h : Only [] w W) => played lim S q cq ops W g0 (hs.later h) hl hq
 obtain ⟨n, hn0⟩ : ∃ n, lim.toNat = n := ⟨_, rfl⟩
 have hn : n ≤ 255 := by omega
 rw [hn0] at hP
 refine k_inM (N := 113) Try.func11 rfl rfl rfl ?_
 refine k_sg ?_
 refine s_box H rfl rfl ?_
 intro p5 _ H'; clear H; have H := H'; clear H'
 refine s_al1 H rfl inf4 rfl ?_
 intro p6 _ H'; clear H; have H := H'; clear H'
 refine k_nc ?_
 refine k_seq ?_
 refine k_sg ?_
 refine s_call rfl (awake13 _) (ca36 rfl) ?_
 rintro e W1 ⟨rfl, H'⟩
 refine ⟨_, rfl, ?_⟩
 have H := H.same H'; clear H'
 refine s_run rfl rfl (r_notT rfl) ?_
 refine k_nc ?_
 refine k_f rfl ?_
 refine k_skip ?_
 refine c_norm ?_
 refine k_sg ?_
 refine s_run rfl rfl (rmi rfl) ?_
 refine s_run rfl rfl (rms rfl) ?_
 refine s_call rfl (hP _ H.only) (ca37 rfl) ?_
 rintro e W1 ⟨v7, v8, rfl, p, b, A, c, l, B, b2, d, hk, hln, hB, rfl, rfl, H'⟩
 refine ⟨_, rfl, ?_⟩
 have H := H.more H'; clear H'
 refine s_run rfl rfl (rmt rfl) ?_
 refine s_run rfl rfl (r_ext (v := .pointer _) rfl rfl) ?_
 refine s_run rfl rfl (r_ext (v := .slice _ _ _) rfl rfl) ?_
 refine s_run rfl rfl (r_ext (v := .bool _) rfl rfl) ?_
 refine s_run rfl rfl (rap rfl) ?_
 refine s_run rfl rfl (ras rfl) ?_
 refine s_run rfl rfl (rab rfl) ?_
 refine k_nc ?_
 refine k_seq ?_
 refine k_sg ?_
 refine s_run rfl rfl (rmb rfl) ?_
 refine s_run rfl rfl (r_notT rfl) ?_
 refine k_nc ?_
 refine k_f rfl ?_
 refine k_skip ?_
 refine c_norm ?_
 refine k_sg ?_
 refine s_run rfl rfl (rmp rfl) ?_
 refine s_run rfl rfl (r_ia0 (i := 0) rfl rfl (by omega) (by omega) Try.underlying66 sz3) ?_
 refine s_run rfl rfl (r_lo H 3 rfl rfl rfl ag3) ?_
 refine s_call rfl (bNext hk _ (H.grp_ents 0 rfl) n0) (ca40 rfl) ?_
 rintro e W1 ⟨⟨r, ok, rfl, hnx⟩, H'⟩
 refine ⟨_, rfl, ?_⟩
 have H := H.same H'; clear H'
 refine s_run rfl rfl (rmt rfl) ?_
 refine s_run rfl rfl (r_ext (v := .int _ _) rfl rfl) ?_
 refine s_run rfl rfl (r_ext (v := .bool _) rfl rfl) ?_
 refine s_run rfl rfl (rai rfl) ?_
 refine s_run rfl rfl (rab rfl) ?_
 refine k_nc ?_
 refine k_sg ?_
 refine s_run rfl rfl (rms rfl) ?_
 refine s_run rfl rfl (r_ia0 (i := 0) rfl rfl (by omega) (by omega) Try.underlying66 sz3) ?_
 refine s_run rfl rfl (r_lo H 3 rfl rfl rfl ag3) ?_
 refine s_run rfl rfl (rms rfl) ?_
 refine s_run rfl rfl (r_len rfl Try.underlying60) ?_
 refine s_call rfl (dListN hln hn _ (H.seesV 1 rfl (by rw [hln]; exact hB)) n0 n) (ca41 rfl) ?_
 rintro e W1 ⟨B3, d3, rfl, H'⟩
 refine ⟨_, rfl, ?_⟩
 have H := H.more H'; clear H'
 refine s_run rfl rfl (ras rfl) ?_
 refine k_nc ?_
 refine k_seq ?_
 refine k_seq ?_
 refine k_cut (fun f W => f 79 = .bool false ∧ f 5 = pt p5 ∧ f 6 = pt p6 ∧ f 7 = pt p ∧ f 8 = .slice B n d ∧ Heap w [] [grp (setE p b A c l), vec Value.bool b2 l 4, blk p6 [.bool false] 4, blk p5 [.int .i64 n0, .int .i64 n1, .int .i64 n2] 66] W) ?_ ?_
 ·clear hP hs
  have hn1 := Bm.next_list hnx
  rw [hln] at hn1
  have hll : (Bm.list l n0 n).length ≤ 255 := by
   have := Bm.listTo_len l n0 n l.length
   rw [Bm.listTo_big l n0 n _ (Nat.le_refl _)] at this; omega
  have hll2 : (Bm.list l n0 n1).length ≤ 255 := by
   have := Bm.listTo_len l n0 n1 l.length
   rw [Bm.listTo_big l n0 n1 _ (Nat.le_refl _)] at this; omega
  have hEl := Bm.elems_len l
  have hlall := Bm.list_all l
  rw [hln] at hlall
  rcases hn1 with ⟨rfl, tl, htl⟩ | ⟨rfl, rfl, htl⟩
  ·have hlen : 0 < (Bm.list l n0 n).length := by rw [htl]; simp
   have hsee := H.own_sees 0 rfl
   obtain ⟨b6, o6, rfl, _, hr6⟩ := hsee (by omega)
   have hc6 := hr6 0 r (by rw [htl]; rfl)
   rw [Nat.add_zero] at hc6
   have HR := H; clear H; have H := HR.tree; refine k_tr mixed ?_
   refine tqn 0 rfl rfl rfl (fun _ hS => r_mv (v := .bool _) rfl) H.only ?_
   refine tqn 1 rfl rfl rfl (fun _ hS => r_mv (v := .slice _ _ _) rfl) H.only ?_
   refine tqn 2 rfl rfl rfl (fun _ hS => r_len rfl Try.underlying22) H.only ?_
   refine tqn 3 rfl rfl rfl (fun _ hS => r_gtrT rfl rfl (by omega)) H.only ?_
   refine tqn 4 rfl rfl rfl (fun _ hS => r_bneq rfl rfl rfl Try.underlying4) H.only ?_
   refine tqn 5 rfl rfl rfl (fun _ hS => r_mv (v := .bool _) rfl) H.only ?_
   refine tqn 6 rfl rfl (g_on 46 (by kernel_rfl) rfl) (fun _ hS => r_mv (v := .bool _) rfl) H.only ?_
   refine tqn 7 rfl rfl (g_on 46 (by kernel_rfl) rfl) (fun _ hS => r_mv (v := .bool _) rfl) H.only ?_
   refine tqn 8 rfl rfl (g_on 48 (by kernel_rfl) rfl) (fun _ hS => r_mv (v := .int _ _) rfl) H.only ?_
   refine tqn 9 rfl rfl (g_on 48 (by kernel_rfl) rfl) (fun _ hS => r_mv (v := .slice _ _ _) rfl) H.only ?_
   refine tqn 10 rfl rfl (g_on 48 (by kernel_rfl) rfl) (fun _ hS => r_ix1o (i := 0) rfl rfl (by omega) (by omega) Try.underlying22 sz3) H.only ?_
   refine tqn 11 rfl rfl (g_on 48 (by kernel_rfl) rfl) (fun _ hS => r_lc (cell_only hS hc6) rfl ag3) H.only ?_
   refine tqn 12 rfl rfl (g_on 48 (by kernel_rfl) rfl) (fun _ hS => r_neqF rfl rfl (by omega)) H.only ?_
   refine tqn 13 rfl rfl (g_on 46 (by kernel_rfl) rfl) (fun _ hS => r_pkT (v := .bool _) rfl rfl) H.only ?_
   refine tqn 14 rfl rfl rfl (fun _ hS => r_pkF (v := .bool _) rfl rfl) H.only ?_
   refine tqn 15 rfl rfl rfl (fun _ hS => r_mv (v := .bool _) rfl) H.only ?_
   refine tqn 16 rfl rfl (g_on 56 (by kernel_rfl) rfl) (fun _ hS => r_mv (v := .bool _) rfl) H.only ?_
   refine tqn 17 rfl rfl (g_on 56 (by kernel_rfl) rfl) (fun _ hS => r_notT rfl) H.only ?_
   refine tqn 18 rfl rfl (g_on 56 (by kernel_rfl) rfl) (fun _ hS => r_mv (v := .bool _) rfl) H.only ?_
   refine ton 19 rfl rfl (g_off 59 (by kernel_rfl) rfl rfl) H.only ?_
   refine ton 20 rfl rfl (g_off 59 (by kernel_rfl) rfl rfl) H.only ?_
   refine tqn 21 rfl rfl (g_on 56 (by kernel_rfl) rfl) (fun _ hS => r_pkF (v := .bool _) rfl rfl) H.only ?_
   refine tqn 22 rfl rfl rfl (fun _ hS => r_pkF (v := .bool _) rfl rfl) H.only ?_
   refine tqn 23 rfl rfl rfl (fun _ hS => r_mv (v := .bool _) rfl) H.only ?_
   refine tqn 24 rfl rfl (g_on 64 (by kernel_rfl) rfl) (fun _ hS => r_mv (v := .pointer _) rfl) H.only ?_
   refine tqn 25 rfl rfl (g_on 64 (by kernel_rfl) rfl) (fun _ hS => r_ia0 (i := 0) rfl rfl (by omega) (by omega) Try.underlying66 sz3) H.only ?_
   refine tqn 26 rfl rfl (g_on 64 (by kernel_rfl) rfl) (fun _ hS => r_lo (HR.same hS) 4 rfl rfl rfl ag3) H.only ?_
   refine tqn 27 rfl rfl (g_on 64 (by kernel_rfl) rfl) (fun _ hS => r_ia0 (i := 1) rfl rfl (by omega) (by omega) Try.underlying66 sz3) H.only ?_
   refine tqn 28 rfl rfl (g_on 64 (by kernel_rfl) rfl) (fun _ hS => r_lo (HR.same hS) 4 rfl rfl rfl ag3) H.only ?_
   refine tqn 30 rfl rfl (g_on 64 (by kernel_rfl) rfl) (fun _ hS => r_mv (v := .slice _ _ _) rfl) H.only ?_
   refine tqn 31 rfl rfl (g_on 64 (by kernel_rfl) rfl) (fun _ hS => r_ia0 (i := 0) rfl rfl (by omega) (by omega) Try.underlying66 sz3) H.only ?_
   refine tqn 32 rfl rfl (g_on 64 (by kernel_rfl) rfl) (fun _ hS => r_lo (HR.same hS) 4 rfl rfl rfl ag3) H.only ?_
   refine tqn 33 rfl rfl (g_on 64 (by kernel_rfl) rfl) (fun _ hS => r_ia0 (i := 1) rfl rfl (by omega) (by omega) Try.underlying66 sz3) H.only ?_
   refine tqn 34 rfl rfl (g_on 64 (by kernel_rfl) rfl) (fun _ hS => r_lo (HR.same hS) 4 rfl rfl rfl ag3) H.only ?_
   refine t_up1 29 (by kernel_rfl) ?_
   refine up_mk rfl ?_
   refine s_call (g_on 64 (by kernel_rfl) rfl) (bBetween hk _ ((HR.same H.only).grp_ents 1 rfl) n0 n1) (ca42 rfl) ?_
   rintro e W1 ⟨rfl, H'⟩
   refine ⟨_, rfl, ?_⟩
   have H := H.same H'; clear H'
   refine k_nil ?_
   refine t_on H.only ?_
   refine t_up1 35 (by kernel_rfl) ?_
   refine up_mk rfl ?_
   refine s_call (g_on 64 (by kernel_rfl) rfl) (dListN hln hn _ ((HR.same H.only).seesV 2 rfl (by rw [hln]; exact hB)) n0 n1) (ca41 rfl) ?_
   rintro e W1 ⟨B5, d5, rfl, H'⟩
   refine ⟨_, rfl, ?_⟩
   have H := H.more H'; clear H'
   refine k_nil ?_
   refine t_on H.only ?_
   refine tqn 36 rfl rfl (g_on 64 (by kernel_rfl) rfl) (fun _ hS => r_len rfl Try.underlying22) H.only ?_
   refine tqn 37 rfl rfl (g_on 64 (by kernel_rfl) rfl) (fun _ hS => r_neqF rfl rfl (by omega)) H.only ?_
   refine tqn 38 rfl rfl rfl (fun _ hS => r_pkF (v := .bool _) rfl rfl) H.only ?_
   refine t_done (by kernel_rfl) ?_
   have H := HR.more H; clear HR; simp only [List.cons_append, List.nil_append] at H
   refine k_met ?_
   exact ⟨rfl, rfl, rfl, rfl, rfl, (H.order [2, 3, 4, 5, 0, 1] rfl rfl : Heap w [] ([_, _, _, _] ++ [_, _]) _).drops⟩
  ·have hlen : (Bm.list l n0 n).length = 0 := by rw [htl]; rfl
   have HR := H; clear H; have H := HR.tree; refine k_tr mixed ?_
   refine tqn 0 rfl rfl rfl (fun _ hS => r_mv (v := .bool _) rfl) H.only ?_
   refine tqn 1 rfl rfl rfl (fun _ hS => r_mv (v := .slice _ _ _) rfl) H.only ?_
   refine tqn 2 rfl rfl rfl (fun _ hS => r_len rfl Try.underlying22) H.only ?_
   refine tqn 3 rfl rfl rfl (fun _ hS => r_gtrF rfl rfl (by omega)) H.only ?_
   refine tqn 4 rfl rfl rfl (fun _ hS => r_bneq rfl rfl rfl Try.underlying4) H.only ?_
   refine tqn 5 rfl rfl rfl (fun _ hS => r_mv (v := .bool _) rfl) H.only ?_
   refine tqn 6 rfl rfl (g_on 46 (by kernel_rfl) rfl) (fun _ hS => r_mv (v := .bool _) rfl) H.only ?_
   refine tqn 7 rfl rfl (g_on 46 (by kernel_rfl) rfl) (fun _ hS => r_mv (v := .bool _) rfl) H.only ?_
   refine ton 8 rfl rfl (g_off 48 (by kernel_rfl) rfl rfl) H.only ?_
   refine ton 9 rfl rfl (g_off 48 (by kernel_rfl) rfl rfl) H.only ?_
   refine ton 10 rfl rfl (g_off 48 (by kernel_rfl) rfl rfl) H.only ?_
   refine ton 11 rfl rfl (g_off 48 (by kernel_rfl) rfl rfl) H.only ?_
   refine ton 12 rfl rfl (g_off 48 (by kernel_rfl) rfl rfl) H.only ?_
   refine tqn 13 rfl rfl (g_on 46 (by kernel_rfl) rfl) (fun _ hS => r_pkF (v := .bool _) rfl rfl) H.only ?_
   refine tqn 14 rfl rfl rfl (fun _ hS => r_pkF (v := .bool _) rfl rfl) H.only ?_
   refine tqn 15 rfl rfl rfl (fun _ hS => r_mv (v := .bool _) rfl) H.only ?_
   refine tqn 16 rfl rfl (g_on 56 (by kernel_rfl) rfl) (fun _ hS => r_mv (v := .bool _) rfl) H.only ?_
   refine tqn 17 rfl rfl (g_on 56 (by kernel_rfl) rfl) (fun _ hS => r_notF rfl) H.only ?_
   refine tqn 18 rfl rfl (g_on 56 (by kernel_rfl) rfl) (fun _ hS => r_mv (v := .bool _) rfl) H.only ?_
   refine tqn 19 rfl rfl (g_on 59 (by kernel_rfl) rfl) (fun _ hS => r_mv (v := .int _ _) rfl) H.only ?_
   refine tqn 20 rfl rfl (g_on 59 (by kernel_rfl) rfl) (fun _ hS => r_neqF rfl rfl (by omega)) H.only ?_
   refine tqn 21 rfl rfl (g_on 56 (by kernel_rfl) rfl) (fun _ hS => r_pkT (v := .bool _) rfl rfl) H.only ?_
   refine tqn 22 rfl rfl rfl (fun _ hS => r_pkF (v := .bool _) rfl rfl) H.only ?_
   refine tqn 23 rfl rfl rfl (fun _ hS => r_mv (v := .bool _) rfl) H.only ?_
   refine tqn 24 rfl rfl (g_on 64 (by kernel_rfl) rfl) (fun _ hS => r_mv (v := .pointer _) rfl) H.only ?_
   refine tqn 25 rfl rfl (g_on 64 (by kernel_rfl) rfl) (fun _ hS => r_ia0 (i := 0) rfl rfl (by omega) (by omega) Try.underlying66 sz3) H.only ?_
   refine tqn 26 rfl rfl (g_on 64 (by kernel_rfl) rfl) (fun _ hS => r_lo (HR.same hS) 4 rfl rfl rfl ag3) H.only ?_
   refine tqn 27 rfl rfl (g_on 64 (by kernel_rfl) rfl) (fun _ hS => r_ia0 (i := 1) rfl rfl (by omega) (by omega) Try.underlying66 sz3) H.only ?_
   refine tqn 28 rfl rfl (g_on 64 (by kernel_rfl) rfl) (fun _ hS => r_lo (HR.same hS) 4 rfl rfl rfl ag3) H.only ?_
   refine tqn 30 rfl rfl (g_on 64 (by kernel_rfl) rfl) (fun _ hS => r_mv (v := .slice _ _ _) rfl) H.only ?_
   refine tqn 31 rfl rfl (g_on 64 (by kernel_rfl) rfl) (fun _ hS => r_ia0 (i := 0) rfl rfl (by omega) (by omega) Try.underlying66 sz3) H.only ?_
   refine tqn 32 rfl rfl (g_on 64 (by kernel_rfl) rfl) (fun _ hS => r_lo (HR.same hS) 4 rfl rfl rfl ag3) H.only ?_
   refine tqn 33 rfl rfl (g_on 64 (by kernel_rfl) rfl) (fun _ hS => r_ia0 (i := 1) rfl rfl (by omega) (by omega) Try.underlying66 sz3) H.only ?_
   refine tqn 34 rfl rfl (g_on 64 (by kernel_rfl) rfl) (fun _ hS => r_lo (HR.same hS) 4 rfl rfl rfl ag3) H.only ?_
   refine t_up1 29 (by kernel_rfl) ?_
   refine up_mk rfl ?_
   refine s_call (g_on 64 (by kernel_rfl) rfl) (bBetween hk _ ((HR.same H.only).grp_ents 1 rfl) n0 n1) (ca42 rfl) ?_
   rintro e W1 ⟨rfl, H'⟩
   refine ⟨_, rfl, ?_⟩
   have H := H.same H'; clear H'
   refine k_nil ?_
   refine t_on H.only ?_
   refine t_up1 35 (by kernel_rfl) ?_
   refine up_mk rfl ?_
   refine s_call (g_on 64 (by kernel_rfl) rfl) (dListN hln hn _ ((HR.same H.only).seesV 2 rfl (by rw [hln]; exact hB)) n0 n1) (ca41 rfl) ?_
   rintro e W1 ⟨B5, d5, rfl, H'⟩
   refine ⟨_, rfl, ?_⟩
   have H := H.more H'; clear H'
   refine k_nil ?_
   refine t_on H.only ?_
   refine tqn 36 rfl rfl (g_on 64 (by kernel_rfl) rfl) (fun _ hS => r_len rfl Try.underlying22) H.only ?_
   refine tqn 37 rfl rfl (g_on 64 (by kernel_rfl) rfl) (fun _ hS => r_neqF rfl rfl (by omega)) H.only ?_
   refine tqn 38 rfl rfl rfl (fun _ hS => r_pkF (v := .bool _) rfl rfl) H.only ?_
   refine t_done (by kernel_rfl) ?_
   have H := HR.more H; clear HR; simp only [List.cons_append, List.nil_append] at H
   refine k_met ?_
   exact ⟨rfl, rfl, rfl, rfl, rfl, (H.order [2, 3, 4, 5, 0, 1] rfl rfl : Heap w [] ([_, _, _, _] ++ [_, _]) _).drops⟩
 ·clear H hnx hP hs
  rintro f W ⟨f79, f5, f6, f7, f8, H⟩
  obtain ⟨f, rfl⟩ := live5 f79 f5 f6 f7 f8
  clear f79 f5 f6 f7 f8
  have hEl := Bm.elems_len l
  have hDL := fun {W : World} (hS : Sees Value.bool W [] B l) => dListN (d := d) hln hn W hS 0 n
  rw [← hln, Bm.list_all l, hln] at hDL
  refine c_norm ?_
  refine k_f rfl ?_
  refine k_skip ?_
  refine c_norm ?_
  refine k_sg ?_
  refine s_run rfl rfl (rmp rfl) ?_
  refine s_call rfl (bAll p _) (ca43 rfl) ?_
  rintro e W1 ⟨q', rfl, H'⟩
  refine ⟨_, rfl, ?_⟩
  have H := H.more H'; clear H'
  refine s_run rfl rfl (r_as (v := .func _ _ _) rfl) ?_
  refine k_nc ?_
  refine k_seq ?_
  refine k_sg ?_
  refine s_run rfl rfl (r_mv (v := .func _ _ _) rfl) ?_
  refine s_run rfl rfl (r_fnil rfl rfl Try.underlying49) ?_
  refine k_nc ?_
  refine k_f rfl ?_
  refine k_skip ?_
  refine c_norm ?_
  refine k_sg ?_
  refine s_run rfl rfl (rms rfl) ?_
  refine s_run rfl rfl (rms rfl) ?_
  refine s_run rfl rfl (r_len rfl Try.underlying60) ?_
  refine s_call rfl (hDL (H.seesV 2 rfl (by rw [hln]; exact hB))) (ca41 rfl) ?_
  rintro e W1 ⟨B4, d4, rfl, H'⟩
  refine ⟨_, rfl, ?_⟩
  have H := H.more H'; clear H'
  refine s_al1 H rfl inf22 rfl ?_
  intro p14 _ H'; clear H; have H := H'; clear H'
  refine s_st (u := .slice _ _ _) H 0 rfl rfl rfl rfl rfl rfl sz22 ?_
  clear H; intro _ H; simp only [jA, jB, jC, jD, jE, jF, jG, jH, jI, jJ, jK, Nat.reduceAdd] at H
  refine k_nc ?_
  refine k_sg ?_
  refine s_al1 H rfl inf3 rfl ?_
  intro p15 _ H'; clear H; have H := H'; clear H'
  refine s_st (u := .int _ _) H 0 rfl rfl rfl rfl rfl rfl sz3 ?_
  clear H; intro _ H; simp only [jA, jB, jC, jD, jE, jF, jG, jH, jI, jJ, jK, Nat.reduceAdd] at H
  refine k_nc ?_
  refine k_seq ?_
  refine k_sg ?_
  refine s_run rfl rfl (r_mv (v := .func _ _ _) rfl) ?_
  refine k_nc ?_
  refine k_b ?_
  have hO := H.only
  replace H := H.order [2, 0, 1, 3, 4, 5, 6, 7] rfl rfl
  obtain ⟨b4, hB4, H2⟩ := own_vec0 (enc := Value.int .i64) H
  clear H
  replace H2 : Heap w [] (fbL n0 n1 n2 (Bm.elems l) p5 p6 p14 p15 b4 B4 d4 0 false ++ itE q' p b A c l) _ := (H2.order [1, 2, 0, 6, 7, 3, 4, 5] rfl rfl : Heap w [] ((fbL n0 n1 n2 (Bm.elems l) p5 p6 p14 p15 b4 B4 d4 0 false ++ itE q' p b A c l) ++ [_]) _).drops
  have HK : Ents (itE q' p b A c l) _ := (H2.order [5, 6, 0, 1, 2, 3, 4] rfl rfl : Heap w _ (itE q' p b A c l ++ _) _).part
  refine k_rf (N := (Bm.elems l).length) (fbL n0 n1 n2 (Bm.elems l) p5 p6 p14 p15 b4 B4 d4 0 false) (itE q' p b A c l) H2 (itE_cel _ _ _ _ _ _) rfl Try.func78 (by kernel_rfl) (by kernel_rfl)
   (bSeq hk _ HK) (fun _ => rfl) (by kernel_rfl)
   (fun pre L => ∃ k : Nat, k ≤ 256 ∧ L = fbL n0 n1 n2 (Bm.elems l) p5 p6 p14 p15 b4 B4 d4 k false ∧ (pre <+: Bm.elems l → k = pre.length))
   (fun q pre L => ∃ (k : Nat) (v : Bool), q = .ret ∧ L = fbL n0 n1 n2 (Bm.elems l) p5 p6 p14 p15 b4 B4 d4 k v ∧ (pre <+: Bm.elems l → v = true))
   (by rintro pre L ⟨_, _, rfl, _⟩; exact fbL_cel _ _ _ _ _ _ _ _ _ _ _ _ _) (by rintro q pre L ⟨_, _, _, rfl, _⟩; exact fbL_cel _ _ _ _ _ _ _ _ _ _ _ _ _) ⟨0, by omega, rfl, fun _ => rfl⟩ (fun x => [(89, .int .i64 x)]) (fun x => [(16, .int .i64 x)]) (fun _ => by simp) ?assign ?body ?done ?stop
  case assign =>
   intro x W
   refine k_rg ?_
   refine s_run rfl rfl (rai rfl) ?_
   refine k_nil ?_
   exact asg_end rfl
  case body =>
   rintro pre x L W ⟨k, hk256, rfl, hp⟩ hlen HO H
   clear HO H2 HK
   unfold fbL at H
   by_cases hkl : k < (Bm.elems l).length
   ·obtain rfl := hB4 (by omega)
    obtain ⟨y, hy⟩ : ∃ y, (Bm.elems l)[k]? = some y := ⟨_, List.getElem?_eq_getElem hkl⟩
    by_cases hyx : y = x
    ·subst hyx
     have hnext : pre ++ [y] <+: Bm.elems l → k + 1 = (pre ++ [y]).length := fun h => by
      rw [List.length_append, List.length_singleton, hp (Bm.pre_last h).1]
     by_cases hk1 : (k : Int) + 1 ≤ bits .and .i64 n2 7
     ·refine k_b ?_
      refine k_seq ?_
      refine k_sg ?_
      refine s_run rfl rfl (r_lo H 0 rfl rfl rfl ag3) ?_
      refine s_run rfl rfl (r_lo H 1 rfl rfl rfl ag22) ?_
      refine s_run rfl rfl (r_len rfl Try.underlying22) ?_
      refine s_run rfl rfl (r_geqF rfl rfl (by omega)) ?_
      refine s_run rfl rfl (rmb rfl) ?_
      refine s_run rfl (g_on 94 (by kernel_rfl) rfl) (r_lo H 1 rfl rfl rfl ag22) ?_
      refine s_run rfl (g_on 94 (by kernel_rfl) rfl) (r_lo H 0 rfl rfl rfl ag3) ?_
      refine s_run rfl (g_on 94 (by kernel_rfl) rfl) (r_ix1 (i := k) rfl rfl (by omega) (by omega) Try.underlying22 sz3) ?_
      refine s_run rfl (g_on 94 (by kernel_rfl) rfl) (r_lv H 2 rfl rfl hy ag3) ?_
      refine s_run rfl (g_on 94 (by kernel_rfl) rfl) (rmi rfl) ?_
      refine s_run rfl (g_on 94 (by kernel_rfl) rfl) (r_neqF rfl rfl (by omega)) ?_
      refine s_run rfl rfl (r_pkF (v := .bool _) rfl rfl) ?_
      refine k_nc ?_
      refine k_f rfl ?_
      refine k_skip ?_
      refine c_norm ?_
      refine k_sg ?_
      refine s_run rfl rfl (r_lo H 0 rfl rfl rfl ag3) ?_
      refine s_run rfl rfl (r_add rfl rfl (wI (by omega))) ?_
      refine s_st (u := .int _ _) H 0 rfl rfl rfl rfl rfl rfl sz3 ?_
      clear H; intro _ H; simp only [jA, jB, jC, jD, jE, jF, jG, jH, jI, jJ, jK, Nat.reduceAdd] at H
      refine k_nc ?_
      refine k_sg ?_
      refine s_run rfl rfl (r_lo H 0 rfl rfl rfl ag3) ?_
      refine s_run rfl rfl (r_ia0 (i := 2) rfl rfl (by omega) (by omega) Try.underlying66 sz3) ?_
      refine s_run rfl rfl (r_lo H 4 rfl rfl rfl ag3) ?_
      refine s_run rfl rfl (r_and rfl rfl rfl) ?_
      refine s_run rfl rfl (r_gtrF rfl rfl (by omega)) ?_
      refine k_nc ?_
      refine k_f rfl ?_
      refine k_skip ?_
      refine b_norm ?_
      refine rq_go ?_
      exact ⟨_, ⟨k + 1, by omega, rfl, hnext⟩, H⟩
     ·refine k_b ?_
      refine k_seq ?_
      refine k_sg ?_
      refine s_run rfl rfl (r_lo H 0 rfl rfl rfl ag3) ?_
      refine s_run rfl rfl (r_lo H 1 rfl rfl rfl ag22) ?_
      refine s_run rfl rfl (r_len rfl Try.underlying22) ?_
      refine s_run rfl rfl (r_geqF rfl rfl (by omega)) ?_
      refine s_run rfl rfl (rmb rfl) ?_
      refine s_run rfl (g_on 94 (by kernel_rfl) rfl) (r_lo H 1 rfl rfl rfl ag22) ?_
      refine s_run rfl (g_on 94 (by kernel_rfl) rfl) (r_lo H 0 rfl rfl rfl ag3) ?_
      refine s_run rfl (g_on 94 (by kernel_rfl) rfl) (r_ix1 (i := k) rfl rfl (by omega) (by omega) Try.underlying22 sz3) ?_
      refine s_run rfl (g_on 94 (by kernel_rfl) rfl) (r_lv H 2 rfl rfl hy ag3) ?_
      refine s_run rfl (g_on 94 (by kernel_rfl) rfl) (rmi rfl) ?_
      refine s_run rfl (g_on 94 (by kernel_rfl) rfl) (r_neqF rfl rfl (by omega)) ?_
      refine s_run rfl rfl (r_pkF (v := .bool _) rfl rfl) ?_
      refine k_nc ?_
      refine k_f rfl ?_
      refine k_skip ?_
      refine c_norm ?_
      refine k_sg ?_
      refine s_run rfl rfl (r_lo H 0 rfl rfl rfl ag3) ?_
      refine s_run rfl rfl (r_add rfl rfl (wI (by omega))) ?_
      refine s_st (u := .int _ _) H 0 rfl rfl rfl rfl rfl rfl sz3 ?_
      clear H; intro _ H; simp only [jA, jB, jC, jD, jE, jF, jG, jH, jI, jJ, jK, Nat.reduceAdd] at H
      refine k_nc ?_
      refine k_sg ?_
      refine s_run rfl rfl (r_lo H 0 rfl rfl rfl ag3) ?_
      refine s_run rfl rfl (r_ia0 (i := 2) rfl rfl (by omega) (by omega) Try.underlying66 sz3) ?_
      refine s_run rfl rfl (r_lo H 4 rfl rfl rfl ag3) ?_
      refine s_run rfl rfl (r_and rfl rfl rfl) ?_
      refine s_run rfl rfl (r_gtrT rfl rfl (by omega)) ?_
      refine k_nc ?_
      refine k_t rfl ?_
      refine k_sg ?_
      refine s_st (u := .bool _) H 3 rfl rfl rfl rfl rfl rfl sz4 ?_
      clear H; intro _ H; simp only [jA, jB, jC, jD, jE, jF, jG, jH, jI, jJ, jK, Nat.reduceAdd] at H
      refine k_nc ?_
      refine k_ret ?_
      refine b_ret ?_
      refine rq_ret ?_
      exact ⟨_, ⟨k + 1, true, rfl, rfl, fun _ => rfl⟩, H⟩
    ·refine k_b ?_
     refine k_seq ?_
     refine k_sg ?_
     refine s_run rfl rfl (r_lo H 0 rfl rfl rfl ag3) ?_
     refine s_run rfl rfl (r_lo H 1 rfl rfl rfl ag22) ?_
     refine s_run rfl rfl (r_len rfl Try.underlying22) ?_
     refine s_run rfl rfl (r_geqF rfl rfl (by omega)) ?_
     refine s_run rfl rfl (rmb rfl) ?_
     refine s_run rfl (g_on 94 (by kernel_rfl) rfl) (r_lo H 1 rfl rfl rfl ag22) ?_
     refine s_run rfl (g_on 94 (by kernel_rfl) rfl) (r_lo H 0 rfl rfl rfl ag3) ?_
     refine s_run rfl (g_on 94 (by kernel_rfl) rfl) (r_ix1 (i := k) rfl rfl (by omega) (by omega) Try.underlying22 sz3) ?_
     refine s_run rfl (g_on 94 (by kernel_rfl) rfl) (r_lv H 2 rfl rfl hy ag3) ?_
     refine s_run rfl (g_on 94 (by kernel_rfl) rfl) (rmi rfl) ?_
     refine s_run rfl (g_on 94 (by kernel_rfl) rfl) (r_neqT rfl rfl (by omega)) ?_
     refine s_run rfl rfl (r_pkF (v := .bool _) rfl rfl) ?_
     refine k_nc ?_
     refine k_t rfl ?_
     refine k_sg ?_
     refine s_st (u := .bool _) H 3 rfl rfl rfl rfl rfl rfl sz4 ?_
     clear H; intro _ H; simp only [jA, jB, jC, jD, jE, jF, jG, jH, jI, jJ, jK, Nat.reduceAdd] at H
     refine k_nc ?_
     refine k_ret ?_
     refine c_ret ?_
     refine b_ret ?_
     refine rq_ret ?_
     refine ⟨_, ⟨k, false, rfl, rfl, fun h => ?_⟩, H⟩
     obtain ⟨h1, h2⟩ := Bm.pre_last h
     rw [← hp h1, hy] at h2
     exact absurd (by simpa using h2) hyx
   ·refine k_b ?_
    refine k_seq ?_
    refine k_sg ?_
    refine s_run rfl rfl (r_lo H 0 rfl rfl rfl ag3) ?_
    refine s_run rfl rfl (r_lo H 1 rfl rfl rfl ag22) ?_
    refine s_run rfl rfl (r_len rfl Try.underlying22) ?_
    refine s_run rfl rfl (r_geqT rfl rfl (by omega)) ?_
    refine s_run rfl rfl (rmb rfl) ?_
    refine s_off rfl (g_off 94 (by kernel_rfl) rfl rfl) ?_
    refine s_off rfl (g_off 94 (by kernel_rfl) rfl rfl) ?_
    refine s_off rfl (g_off 94 (by kernel_rfl) rfl rfl) ?_
    refine s_off rfl (g_off 94 (by kernel_rfl) rfl rfl) ?_
    refine s_off rfl (g_off 94 (by kernel_rfl) rfl rfl) ?_
    refine s_off rfl (g_off 94 (by kernel_rfl) rfl rfl) ?_
    refine s_run rfl rfl (r_pkT (v := .bool _) rfl rfl) ?_
    refine k_nc ?_
    refine k_t rfl ?_
    refine k_sg ?_
    refine s_st (u := .bool _) H 3 rfl rfl rfl rfl rfl rfl sz4 ?_
    clear H; intro _ H; simp only [jA, jB, jC, jD, jE, jF, jG, jH, jI, jJ, jK, Nat.reduceAdd] at H
    refine k_nc ?_
    refine k_ret ?_
    refine c_ret ?_
    refine b_ret ?_
    refine rq_ret ?_
    refine ⟨_, ⟨k, false, rfl, rfl, fun h => ?_⟩, H⟩
    have := hp (Bm.pre_last h).1
    omega
  case done =>
   rintro D xs L W rfl ⟨k, _, rfl, hp⟩ H hK
   have hk2 := hp (List.prefix_refl _)
   subst hk2
   unfold fbL at H
   refine b_norm ?_
   refine c_norm ?_
   refine k_sg ?_
   refine s_run rfl rfl (r_lo H 1 rfl rfl rfl ag3) ?_
   refine s_run rfl rfl (r_lo H 2 rfl rfl rfl ag22) ?_
   refine s_run rfl rfl (r_len rfl Try.underlying22) ?_
   refine s_run rfl rfl (r_eqlT rfl rfl (by omega)) ?_
   refine s_st (u := .bool _) H 4 rfl rfl rfl rfl rfl rfl sz4 ?_
   clear H; intro _ H; simp only [jA, jB, jC, jD, jE, jF, jG, jH, jI, jJ, jK, Nat.reduceAdd] at H
   refine k_nc ?_
   refine k_ret ?_
   refine fin_r ?_
   refine fin_D H 0 rfl ?_
   intro _ H'; simp only [List.eraseIdx_cons_zero, List.eraseIdx_cons_succ] at H'; clear H; have H := H'; clear H'
   refine fm1 rfl (rv_c H 3 rfl rfl ag4) ?_
   exact ⟨rfl, H.below⟩
  case stop =>
   rintro D q pre L W hS ⟨k, v, rfl, rfl, hv⟩ H hK
   obtain rfl := hv hS
   unfold fbL at H
   refine k_ret ?_
   refine b_ret ?_
   refine c_ret ?_
   refine fin_r ?_
   refine fin_D H 0 rfl ?_
   intro _ H'; simp only [List.eraseIdx_cons_zero, List.eraseIdx_cons_succ] at H'; clear H; have H := H'; clear H'
   refine fm1 rfl (rv_c H 3 rfl rfl ag4) ?_
   exact ⟨rfl, H.below⟩
end Go.Proofs.Ytdgmlfpikgjnlaa
end

section
namespace Go.Proofs.Ytdgmlfpikgjnlaa.lBitmapFinds
open Go.ChangeShapes Go.WideShapes Go.ChangeAt Go.RowKit
theorem own : ownKnob Try.prog.godebug = none := by kernel_rfl
theorem laidOut : laidOutB Try.prog = true := by kernel_rfl
set_option maxRecDepth 100000 in
theorem lifted (os : Os) (started : os.Started) (H : Type) (enc : TypeId × Value → H) :
  ReturnsInHanded {} Try.checked os 11 .any (Rows.bitmapFindsSpec.pre6 enc Try.prog Try.f11 Rows.bitmapFindsRow.domain false) (Rows.bitmapFindsSpec.post enc Try.prog Try.f11 false true false false) := by
 refine returnsInHanded_of_change (C := Try.checked) own started (by kernel_rfl) Try.func11
  (ChangeSpec.witness6 (enc := enc) (C := Try.checked) false ⟨#[], #[.int .u8 0, .slice none 0 0, .agg #[.int .i64 0, .int .i64 0, .int .i64 0]], []⟩ 8 (by kernel_rfl) (by kernel_rfl) (by kernel_rfl) (by kernel_rfl)) ?_
 intro W base args ds gs before hval0 hW hcnd _
 have hval : ∀ (j : Nat) t v, Try.f11.params[j]? = some t → args[j]? = some v → Value.okWide Try.prog W .any base t v := hval0
 have hW' := hW
 obtain ⟨p, q, hA0, hV, rfl, hfz, hnd⟩ := hW
 have hA : DataW.TrodAll enc Try.prog W 0 (fun _ => true) true Try.f11.params.toList args.toList ds p := hA0
 rw [Try.params11] at hA hval
 obtain ⟨v0, vs0, d0, ds0, p0, q0, hargs, rfl, rfl, h0, r0⟩ := trodAll_cons hA
 obtain ⟨v1, vs1, d1, ds1, p1, q1, rfl, rfl, rfl, h1, r1⟩ := trodAll_cons r0
 obtain ⟨v2, vs2, d2, ds2, p2, q2, rfl, rfl, rfl, h2, r2⟩ := trodAll_cons r1
 obtain ⟨rfl, rfl, rfl⟩ := trodAll_nil r2
 obtain rfl : args = #[v0, v1, v2] := by cases args; simp_all
 obtain ⟨rfl, rfl⟩ := trodVars_none hV
 have k0 := h0
 have lt0 : ∀ x ∈ p0, x.block < W.heap.size := by obtain ⟨m, hm⟩ := k0; exact DataW.trod_lt m _ _ _ hm
 have k1 := h1
 have lt1 : ∀ x ∈ p1, x.block < W.heap.size := by obtain ⟨m, hm⟩ := k1; exact DataW.trod_lt m _ _ _ hm
 have k2 := h2
 have lt2 : ∀ x ∈ p2, x.block < W.heap.size := by obtain ⟨m, hm⟩ := k2; exact DataW.trod_lt m _ _ _ hm
 obtain ⟨a0, rfl, rfl, rfl, w0⟩ := open_int Try.underlying5 (hval 0 5 v0 rfl rfl) h0
 obtain ⟨x1, rfl, w1⟩ := opens_OpB W base v1 d1 p1 (hval 1 58 v1 rfl rfl) h1
 obtain ⟨z2, hz2, rfl, wz2⟩ := open_array_ints Try.underlying66 Try.underlying3 (by kernel_rfl) (by kernel_rfl) (hval 2 66 v2 rfl rfl) h2
 obtain ⟨a2_0, a2_1, a2_2, rfl⟩ := list3 hz2
 clear hA0 hval0
 refine (walk_BitmapFinds a0 x1 a2_0 a2_1 a2_2 W w0 w1 (wz2 _ (by simp)) (wz2 _ (by simp)) (wz2 _ (by simp))).mono fun e W' ⟨he, bel⟩ => ?_
 subst he
 exact ⟨_, rfl, _, _, _, [], _, [], hW', trodAll_mk1 (shut_bool Try.underlying4 _), (trodAll_cons_mk (Below.trod laidOut (by kernel_rfl) (of_decide_eq_true (by kernel_rfl)) k0 bel lt0) (trodAll_cons_mk (Below.trod laidOut (by kernel_rfl) (of_decide_eq_true (by kernel_rfl)) k1 bel lt1) (trodAll_cons_mk (Below.trod laidOut (by kernel_rfl) (of_decide_eq_true (by kernel_rfl)) k2 bel lt2) trodAll_mk0))), rfl, bel.frame _, fun h => by cases h⟩
theorem over : Rows.bitmapFindsRow.holds Try.pinned (OpenSpec.ofChange Rows.bitmapFindsSpec) :=
 OpenClaim.holds_of_wide 11 Try.f11 rfl rfl rfl rfl rfl rfl rfl ⟨rfl, rfl, rfl, rfl, rfl⟩ rfl rfl rfl rfl rfl (by kernel_rfl) Try.func11 (by kernel_rfl)
  (of_decide_eq_true (by kernel_rfl)) (by unfold Func.isWrapper; first | (rw [if_pos (by decide +kernel)]; kernel_rfl) | (rw [if_neg (by decide +kernel)]; exact ⟨rfl, rfl⟩))
  (fun os started H enc _ => lifted os started H enc)
theorem proved : Rows.BitmapFindsSaid := over
#print axioms proved
end Go.Proofs.Ytdgmlfpikgjnlaa.lBitmapFinds
end
