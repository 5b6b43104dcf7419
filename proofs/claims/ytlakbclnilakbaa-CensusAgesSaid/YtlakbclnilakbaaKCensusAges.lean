/-
  CensusAges: for every input the Go function answers true, and its arguments read afterwards as they read before. No condition.
-/
import Derived.Test.YtlakbclnilakbaaKCensusAgesd
set_option linter.unusedSimpArgs false
set_option linter.unusedVariables false
set_option linter.unusedSectionVars false
section
namespace Go.Proofs.Ytlakbclnilakbaa
open Go.RowKit
set_option maxRecDepth 100000
set_option maxHeartbeats 8000000
open St (Q)
theorem Cn.left_eq {D L : List Int} (h : D.Perm L) (hb : ∀ x ∈ L, 0 ≤ x) (a : Int) : Cn.left a (Cn.tbl D) = if ((L.filter fun x => decide (a ≤ x)).length : Int) = 0 then 0 else 100 * ((L.filter fun x => decide (a < x)).length : Int) / ((L.filter fun x => decide (a ≤ x)).length : Int) := by
 have e1 : Cn.ws (fun i => decide (a ≤ (i : Int))) 0 (Cn.tbl D) = ((L.filter fun x => decide (a ≤ x)).length : Int) := by
  rw [Cn.ws_tbl, (h.filter _).length_eq]
  congr 2
  exact List.filter_congr fun x hx => by have := hb x hx; rw [Int.toNat_of_nonneg this]
 have e2 : Cn.ws (fun i => decide (a < (i : Int))) 0 (Cn.tbl D) = ((L.filter fun x => decide (a < x)).length : Int) := by
  rw [Cn.ws_tbl, (h.filter _).length_eq]
  congr 2
  exact List.filter_congr fun x hx => by have := hb x hx; rw [Int.toNat_of_nonneg this]
 unfold Cn.left
 rw [e1, e2]
/-- what is told of those that there are at last -/
structure Lst (cs : List (List Int)) (M : List (Int × Int)) (all : List Int) : Prop where
 rise : all.Pairwise fun x y => x < y
 perm : M.Perm (all.map fun a => (a, (Cn.age cs a : Int)))
 bd : ∀ a ∈ all, 1 ≤ Cn.age cs a ∧ Cn.age cs a ≤ 30
 len : all.length ≤ 60
theorem Lst.nil {D : List Int} {M : List (Int × Int)} (h : Cn.At [] M D) : Lst [] M [] := ⟨List.Pairwise.nil, by rw [h.none]; exact List.Perm.refl _, by simp, by simp⟩
theorem Lst.snoc {cs : List (List Int)} {l D : List Int} {M : List (Int × Int)} (h : Cn.At (cs ++ [l]) M D) (hl : l.length ≤ 60) (hc : (cs ++ [l]).length ≤ 30) : Lst (cs ++ [l]) M (Cn.sorted l) :=
 ⟨Cn.sorted_rise l, h.all, fun a ha => by
  have h1 := (Cn.sorted_mem _ _).1 ha
  have h3 := Cn.age_le (cs ++ [l]) a
  have h4 : Cn.age (cs ++ [l]) a ≠ 0 := by rw [Cn.age_snoc, if_pos h1]; omega
  omega, Nat.le_trans (Cn.sorted_len l) hl⟩
theorem zip_map_self {l : List Int} {g : Int → Int} : l.zip (l.map g) = l.map fun a => (a, g a) := by
 induction l with
 | nil => rfl
 | cons x l ih => rw [List.map_cons, List.zip_cons_cons, ih]; rfl
theorem law48 (A : Option Addr) (n c : Nat) (rs : List CRow) (age most : Int) (w : World) (hS : ScriptC w A rs) (hl : rs.length = n) (hn : n ≤ 9223372036854775807) (hnc : n ≤ c) :
  Calls Try.prog 7 [.slice A n c, .int .i64 age, .int .i64 most].toArray w fun e w' => e = .returned (.bool true) ∧ Only [] w w' := by
 have H := Heap.nil w
 refine k_in (N := 132) Try.func7 rfl rfl rfl ?_
 refine k_sg ?_
 refine s_run rfl rfl (rab rfl) ?_
 refine k_nc ?_
 refine k_seq ?_
 refine k_sg ?_
 refine s_call rfl (awake48 _) (ca33 rfl) ?_
 rintro e W1 ⟨rfl, H'⟩
 refine ⟨_, rfl, ?_⟩
 have H := H.same H'; clear H'
 refine s_run rfl rfl (r_notT rfl) ?_
 refine k_nc ?_
 refine k_f rfl ?_
 refine k_skip ?_
 refine c_norm ?_
 refine k_seq ?_
 refine k_seq ?_
 refine k_cut (fun f W => ∃ q, f 0 = .slice A n c ∧ f 1 = .int .i64 age ∧ f 2 = .int .i64 most ∧ f 23 = .bool (!q) ∧ (q = true → CsOk w A rs) ∧ Heap w [] [] W) ?_ ?_
 ·have hF := few48 A n c rs w hS hl hn
  have hF2 := fun {W : World} (hO : Only [] w W) => few48 A n c rs W (hS.later hO) hl hn
  refine k_rg ?_
  refine s_run rfl rfl (rms rfl) ?_
  refine s_call rfl (hF2 H.only) (ca34 rfl) ?_
  rintro e W1 ⟨q, rfl, hq, H'⟩
  refine ⟨_, rfl, ?_⟩
  have H := H.same H'; clear H'
  refine s_run rfl rfl (r_not rfl) ?_
  refine k_nil ?_
  refine k_met ?_
  exact ⟨q, rfl, rfl, rfl, rfl, fun h => ⟨hS, (hq h).few, (hq h).len, (hq h).bd⟩, H⟩
 clear H
 rintro f W ⟨q, f0, f1, f2, f23, hq, H⟩
 cases q with
 | false =>
  obtain ⟨f, rfl⟩ := live1 f23
  clear f0 f1 f2 f23
  refine c_norm ?_
  refine k_t rfl ?_
  refine k_sg ?_
  refine s_run rfl rfl (rab rfl) ?_
  refine k_nc ?_
  refine k_ret ?_
  refine c_ret ?_
  refine fin1r (v := .bool _) rfl rfl ?_
  exact ⟨rfl, H.only⟩
 | true =>
  have hC := hq rfl
  clear hq
  have hfew := hC.few
  obtain ⟨f, rfl⟩ := live4 f0 f1 f2 f23
  clear f0 f1 f2 f23
  refine c_norm ?_
  refine k_f rfl ?_
  refine k_skip ?_
  refine c_norm ?_
  refine k_sg ?_
  refine s_call rfl (cNew _) (ca35 rfl) ?_
  rintro e W1 ⟨p, b, rfl, H'⟩
  refine ⟨_, rfl, ?_⟩
  have H := H.more (A := [grp _]) (grp_heap H'); clear H'; simp only [List.cons_append, List.nil_append] at H
  refine s_run rfl rfl (rap rfl) ?_
  refine k_nc ?_
  refine k_seq ?_
  refine k_sg ?_
  refine s_run rfl rfl (rai rfl) ?_
  refine k_nc ?_
  refine k_b ?_
  refine k_loop (fun z f W => ∃ (i : Nat) (b : Nat) (CA : Option Addr) (cc : Nat) (nb nd : Int) (M : List (Int × Int)) (D : List Int), i ≤ n ∧ z = n - i ∧ Cn.At (csOf (rs.take i)) M D ∧ 0 ≤ nb ∧ nb ≤ i * 1000 ∧ 0 ≤ nd ∧ nd ≤ i * 10000 ∧ f 0 = .slice A n c ∧ f 1 = .int .i64 age ∧ f 2 = .int .i64 most ∧ f 7 = ptrC p ∧ f 8 = .int .i64 i ∧ Heap w [] [grp (cnE p b CA cc i nb nd M D)] W) n ⟨0, b, none, 0, 0, 0, [], [], by omega, rfl, Cn.At.start, by omega, by omega, by omega, by omega, rfl, rfl, rfl, rfl, rfl, H⟩ ?_
  clear H
  rintro z f W ⟨i, b, CA, cc, nb, nd, M, D, hi, rfl, hAt, hb1, hb2, hb3, hb4, f0, f1, f2, f7, f8, H⟩
  have hcl : (csOf (rs.take i)).length = i := by unfold csOf; rw [List.length_map, List.length_take]; omega
  have hcm : ∀ l ∈ csOf (rs.take i), l.length ≤ 60 ∧ ∀ x ∈ l, 0 ≤ x ∧ x ≤ 1099511627776 := fun l h => by
   obtain ⟨r, hr, rfl⟩ := List.mem_map.1 h
   have hrm := List.mem_of_mem_take hr
   exact ⟨by rw [(hC.S.2 r hrm).l]; exact hC.len r hrm, hC.bd r hrm⟩
  obtain ⟨hM1, hM2, hD1, hD2⟩ := hAt.bd (by omega) (fun l h => (hcm l h).1) (fun l h => (hcm l h).2)
  by_cases hin : i < n
  ·obtain ⟨r, hr⟩ : ∃ r, rs[i]? = some r := ⟨_, List.getElem?_eq_getElem (by omega)⟩
   have hrm := List.mem_of_getElem? hr
   obtain ⟨q, o, rfl, _, hrd⟩ := hC.S.1 (by omega)
   have cr := hrd _ _ hr
   have hrl := hC.len r hrm
   have hro := hC.S.2 r hrm
   have hsn := csOf_snoc hr
   obtain ⟨f, rfl⟩ := live5 f0 f1 f2 f7 f8
   clear f0 f1 f2 f7 f8
   refine k_seq ?_
   refine k_sg ?_
   refine s_run rfl rfl (rmi rfl) ?_
   refine s_run rfl rfl (rms rfl) ?_
   refine s_run rfl rfl (r_len rfl Try.underlying69) ?_
   refine s_run rfl rfl (r_lssT rfl rfl (by omega)) ?_
   refine k_nc ?_
   refine k_t rfl ?_
   refine k_skip ?_
   refine c_norm ?_
   refine k_seq ?_
   refine k_b ?_
   refine k_rg ?_
   refine s_run rfl rfl (rmp rfl) ?_
   refine s_run rfl rfl (rms rfl) ?_
   refine s_run rfl rfl (rmi rfl) ?_
   refine s_run rfl rfl (r_ix1o (i := i) rfl rfl (by omega) (by omega) Try.underlying69 sz25) ?_
   refine s_run rfl rfl (r_lr H rfl cr (by simp) ag25) ?_
   refine s_call rfl (cCount (H.grp_ents 0 rfl) (by omega) (fun x hx => by have := hM2 x hx; omega) (fun x hx => by have := hM2 x hx; omega) (fun x hx => by have := hD1 x hx; omega) (by omega) ⟨by omega, by omega, by omega, by omega, by omega, by omega⟩ _ _ _ r.xs (hro.s.later H.only (by simp)) hro.l (by omega) (hC.bd r hrm)) (ca36 rfl) ?_
   rintro e W1 ⟨b1, A1, c1, nb1, nd1, DA1, dc1, BA1, bn1, bc1, dk1, rfl, hp1, hx1, hx2, hx3, hx4, H'⟩
   refine ⟨_, rfl, ?_⟩
   have H := Heap.grp_new H 0 rfl (B := [_]) (A' := cnE _ _ _ _ _ _ _ _ _) (H'.wide lv_cn); clear H'; simp only [List.cons_append, List.nil_append, List.set_cons_zero, List.set_cons_succ] at H
   refine k_nil ?_
   refine b_norm ?_
   refine c_norm ?_
   refine k_rg ?_
   refine s_run rfl rfl (rmi rfl) ?_
   refine s_run rfl rfl (r_add rfl rfl (wI (by omega))) ?_
   refine s_run rfl rfl (rai rfl) ?_
   refine k_nil ?_
   refine c_round ?_
   have hst := hAt.step r.xs hp1
   rw [← hsn] at hst
   exact ⟨_, _, by omega, rfl, i + 1, b1, A1, c1, nb1, nd1, _, _, by omega, rfl, hst, hx3, by omega, hx4, by omega, rfl, rfl, rfl, rfl, rfl, H.drop⟩
  ·obtain rfl : i = n := by omega
   have hta : rs.take i = rs := List.take_of_length_le (by omega)
   rw [hta] at hAt hcl hcm
   have hcs : (csOf rs).length ≤ 30 := by omega
   obtain ⟨f, rfl⟩ := live5 f0 f1 f2 f7 f8
   clear f0 f1 f2 f7 f8
   refine k_seq ?_
   refine k_sg ?_
   refine s_run rfl rfl (rmi rfl) ?_
   refine s_run rfl rfl (rms rfl) ?_
   refine s_run rfl rfl (r_len rfl Try.underlying69) ?_
   refine s_run rfl rfl (r_lssF rfl rfl (by omega)) ?_
   refine k_nc ?_
   refine k_f rfl ?_
   refine k_exit ?_
   refine c_exit ?_
   refine c_exit ?_
   refine b_hit ?_
   refine c_norm ?_
   refine k_sg ?_
   refine s_run rfl rfl (ras rfl) ?_
   refine k_nc ?_
   refine k_seq ?_
   refine k_seq ?_
   refine k_cut (fun f W => f 0 = .slice A i c ∧ f 1 = .int .i64 age ∧ f 2 = .int .i64 most ∧ f 7 = ptrC p ∧ f 9 = .slice none 0 0 ∧ f 39 = .bool (decide (0 < i)) ∧ Heap w [] [grp (cnE p b CA cc i nb nd M D)] W) ?_ ?_
   ·by_cases h0 : 0 < i
    ·rw [decide_eq_true h0]
     refine k_rg ?_
     refine s_run rfl rfl (rms rfl) ?_
     refine s_run rfl rfl (r_len rfl Try.underlying69) ?_
     refine s_run rfl rfl (r_gtrT rfl rfl (by omega)) ?_
     refine k_nil ?_
     refine k_met ?_
     exact ⟨rfl, rfl, rfl, rfl, rfl, rfl, H⟩
    ·rw [decide_eq_false h0]
     refine k_rg ?_
     refine s_run rfl rfl (rms rfl) ?_
     refine s_run rfl rfl (r_len rfl Try.underlying69) ?_
     refine s_run rfl rfl (r_gtrF rfl rfl (by omega)) ?_
     refine k_nil ?_
     refine k_met ?_
     exact ⟨rfl, rfl, rfl, rfl, rfl, rfl, H⟩
   clear H
   rintro f W ⟨f0, f1, f2, f7, f9, f39, H⟩
   obtain ⟨f, rfl⟩ := live6 f0 f1 f2 f7 f9 f39
   clear f0 f1 f2 f7 f9 f39
   refine c_norm ?_
   refine k_cut (fun f W => ∃ (AA : Option Addr) (ac : Nat) (all : List Int), Lst (csOf rs) M all ∧ Sees (Value.int .i64) W [] AA all ∧ f 0 = .slice A i c ∧ f 1 = .int .i64 age ∧ f 2 = .int .i64 most ∧ f 7 = ptrC p ∧ f 9 = .slice AA all.length ac ∧ Heap w [] [grp (cnE p b CA cc i nb nd M D)] W) ?_ ?_
   ·by_cases h0 : 0 < i
    ·obtain ⟨j, rfl⟩ : ∃ j, i = j + 1 := ⟨i - 1, by omega⟩
     obtain ⟨r, hr⟩ : ∃ r, rs[j]? = some r := ⟨_, List.getElem?_eq_getElem (by omega)⟩
     have hrm := List.mem_of_getElem? hr
     obtain ⟨q, o, rfl, _, hrd⟩ := hC.S.1 (by omega)
     have cr := hrd _ _ hr
     have hrl := hC.len r hrm
     have hro := hC.S.2 r hrm
     have hsn := csOf_snoc hr
     rw [hta] at hsn
     rw [decide_eq_true h0]
     have hSo := fun {W : World} (hO : Only [] w W) => dSorted r.A r.n r.c r.xs W (hro.s.later hO (by simp)) hro.l (by omega)
     refine k_t rfl ?_
     refine k_rg ?_
     refine s_run rfl rfl (rms rfl) ?_
     refine s_run rfl rfl (rms rfl) ?_
     refine s_run rfl rfl (r_len rfl Try.underlying69) ?_
     refine s_run rfl rfl (r_sub rfl rfl (wI (by omega))) ?_
     refine s_run rfl rfl (r_ix1o (i := j) rfl rfl (by omega) (by omega) Try.underlying69 sz25) ?_
     refine s_run rfl rfl (r_lr H rfl cr (by simp) ag25) ?_
     refine s_call rfl (hSo H.only) (ca37 rfl) ?_
     rintro e W1 ⟨AA, ac, rfl, hSS, H'⟩
     refine ⟨_, rfl, ?_⟩
     have H := H.same H'; clear H'
     refine s_run rfl rfl (ras rfl) ?_
     refine k_nil ?_
     refine k_met ?_
     exact ⟨AA, ac, _, by rw [hsn] at hAt hcs ⊢; exact Lst.snoc hAt (by rw [hro.l]; exact hrl) hcs, hSS, rfl, rfl, rfl, rfl, rfl, H⟩
    ·rw [decide_eq_false h0]
     have hrs : rs = [] := List.eq_nil_of_length_eq_zero (by omega)
     refine k_f rfl ?_
     refine k_skip ?_
     refine k_met ?_
     exact ⟨none, 0, [], by rw [hrs] at hAt ⊢; exact Lst.nil hAt, Sees.nil, rfl, rfl, rfl, rfl, rfl, H⟩
   clear H
   rintro f W ⟨AA, ac, all, hLs, hSa, f0, f1, f2, f7, f9, HB⟩
   obtain ⟨f, rfl⟩ := live5 f0 f1 f2 f7 f9
   clear f0 f1 f2 f7 f9
   have hE : Ents (cnE p b CA cc i nb nd M D) W := HB.grp_ents 0 rfl
   have hCW : CsOk W A rs := hC.later HB.only
   have H := Heap.nil W
   have hEl := fun {W2 : World} (hO : Only [] W W2) => ((Heap.start hE).same hO).ents
   obtain ⟨g, hg⟩ : ∃ g : Int → Int, g = fun a => (Cn.age (csOf rs) a : Int) := ⟨_, rfl⟩
   have hgb : ∀ a ∈ all, 1 ≤ g a ∧ g a ≤ 30 := fun a ha => by
    have h1 := hLs.bd a ha
    have h2 : g a = (Cn.age (csOf rs) a : Int) := by rw [hg]
    omega
   have hAg := fun {W2 : World} (hO : Only [] W W2) (a : Int) => dAge A i c rs a W2 (hCW.later hO) hl
   have hga : ∀ a, (Cn.age (csOf rs) a : Int) = g a := fun a => by rw [hg]
   simp only [hga] at hAg
   have hpm := hLs.perm
   simp only [hga] at hpm
   have hal := hLs.len
   refine c_norm ?_
   refine k_sg ?_
   refine s_run rfl rfl (ras rfl) ?_
   refine s_run rfl rfl (ras rfl) ?_
   refine k_nc ?_
   refine k_seq ?_
   refine k_sg ?_
   refine s_run rfl rfl (rai rfl) ?_
   refine k_nc ?_
   refine k_b ?_
   replace H := (H.own_nil 1 3).own_nil 1 3
   refine k_loop (fun z f W2 => ∃ (k : Nat) (GA : Option Addr) (gc : Nat) (KA : Option Addr) (kc : Nat), k ≤ all.length ∧ z = all.length - k ∧ f 0 = .slice A i c ∧ f 1 = .int .i64 age ∧ f 2 = .int .i64 most ∧ f 7 = ptrC p ∧ f 9 = .slice AA all.length ac ∧ f 10 = .slice GA k gc ∧ f 11 = .slice KA k kc ∧ f 12 = .int .i64 k ∧ Heap W [] [ownN 1 (.slice KA k kc) k (((all.take k).map fun a => Bt.highest (g a)).map (Value.int .i64)) 3, ownN 1 (.slice GA k gc) k (((all.take k).map g).map (Value.int .i64)) 3] W2) all.length ⟨0, none, 0, none, 0, by omega, rfl, rfl, rfl, rfl, rfl, rfl, rfl, rfl, rfl, H⟩ ?_
   clear H
   rintro z f W2 ⟨k, GA, gc, KA, kc, hk, rfl, f0, f1, f2, f7, f9, f10, f11, f12, H⟩
   by_cases hkl : k < all.length
   ·obtain ⟨x, hx⟩ : ∃ x, all[k]? = some x := ⟨_, List.getElem?_eq_getElem hkl⟩
    obtain ⟨q, o, rfl, _, hrd⟩ := hSa (by omega)
    have cx := hrd _ _ hx
    have hgx := hgb x (List.mem_of_getElem? hx)
    have hA1 := fun {W3 : World} (hO : Only [] W W3) => hAg hO x
    have ht1 : (all.take (k + 1)).map g = (all.take k).map g ++ [g x] := by rw [← tk_snoc hx, List.map_append]; rfl
    have ht2 : (all.take (k + 1)).map (fun a => Bt.highest (g a)) = (all.take k).map (fun a => Bt.highest (g a)) ++ [Bt.highest (g x)] := by rw [← tk_snoc hx, List.map_append]; rfl
    have hwr : IntKind.u64.wrap (g x) = g x := IntWalk.u64_in _ (by omega)
    have hHi := fun W => rHighest_any (g x) W (by omega) (by omega)
    obtain ⟨f, rfl⟩ := live8S f0 f1 f2 f7 f9 f10 f11 f12
    clear f0 f1 f2 f7 f9 f10 f11 f12
    refine k_seq ?_
    refine k_sg ?_
    refine s_run rfl rfl (rmi rfl) ?_
    refine s_run rfl rfl (rms rfl) ?_
    refine s_run rfl rfl (r_len rfl Try.underlying25) ?_
    refine s_run rfl rfl (r_lssT rfl rfl (by omega)) ?_
    refine k_nc ?_
    refine k_t rfl ?_
    refine k_skip ?_
    refine c_norm ?_
    refine k_seq ?_
    refine k_b ?_
    refine k_sg ?_
    refine s_run rfl rfl (rms rfl) ?_
    refine s_run rfl rfl (rms rfl) ?_
    refine s_run rfl rfl (rmi rfl) ?_
    refine s_run rfl rfl (r_ix1o (i := k) rfl rfl (by omega) (by omega) Try.underlying25 sz3) ?_
    refine s_run rfl rfl (r_lr H rfl cx (by simp) ag3) ?_
    refine s_call rfl (hA1 H.only) (ca38 rfl) ?_
    rintro e W1 ⟨rfl, H'⟩
    refine ⟨_, rfl, ?_⟩
    have H := H.same H'; clear H'
    refine s_run rfl rfl (rai rfl) ?_
    refine k_nc ?_
    refine k_sg ?_
    refine s_run rfl rfl (rms rfl) ?_
    refine s_run rfl rfl (rmi rfl) ?_
    refine s_app1 (enc := (Value.int .i64)) H 1 rfl rfl rfl rfl rfl rfl rfl (by omega) Try.underlying25 inf3 rfl ?_
    intro _ An cn _ H'; simp only [List.set_cons_zero, List.set_cons_succ, List.take_succ_cons, List.take_zero, List.drop_succ_cons, List.drop_zero, List.cons_append, List.nil_append, List.append_nil, List.length_cons, List.length_nil, Nat.reduceAdd] at H'; clear H; have H := H'; clear H'
    refine s_run rfl rfl (ras rfl) ?_
    refine k_nc ?_
    refine k_rg ?_
    refine s_run rfl rfl (rms rfl) ?_
    refine s_run rfl rfl (rmi rfl) ?_
    refine s_run rfl rfl (r_cv rfl (by kernel_rfl) Try.underlying78 (wU (by omega))) ?_
    refine s_call rfl (hHi _) (ca39 rfl) ?_
    rintro e W1 ⟨rfl, rfl⟩
    refine ⟨_, rfl, ?_⟩
    skip
    refine s_app1 (enc := (Value.int .i64)) H 0 rfl rfl rfl rfl rfl rfl rfl (by omega) Try.underlying25 inf3 rfl ?_
    intro _ An cn _ H'; simp only [List.set_cons_zero, List.set_cons_succ, List.take_succ_cons, List.take_zero, List.drop_succ_cons, List.drop_zero, List.cons_append, List.nil_append, List.append_nil, List.length_cons, List.length_nil, Nat.reduceAdd] at H'; clear H; have H := H'; clear H'
    refine s_run rfl rfl (ras rfl) ?_
    refine k_nil ?_
    refine b_norm ?_
    refine c_norm ?_
    refine k_rg ?_
    refine s_run rfl rfl (rmi rfl) ?_
    refine s_run rfl rfl (r_add rfl rfl (wI (by omega))) ?_
    refine s_run rfl rfl (rai rfl) ?_
    refine k_nil ?_
    refine c_round ?_
    exact ⟨_, _, by omega, rfl, k + 1, _, _, _, _, by omega, rfl, rfl, rfl, rfl, rfl, rfl, rfl, rfl, rfl, by rw [ht1, ht2]; exact H⟩
   ·obtain rfl : k = all.length := by omega
    rw [List.take_length] at H
    obtain ⟨f, rfl⟩ := live8S f0 f1 f2 f7 f9 f10 f11 f12
    clear f0 f1 f2 f7 f9 f10 f11 f12
    have hLv := fun {W3 : World} (hO : Only [] W W3) => dLived A i c rs W3 (hCW.later hO) hl hnc
    have hlb := Cn.lived_bd (csOf rs)
    obtain ⟨L, hL⟩ : ∃ L, Cn.lived (csOf rs) = L := ⟨_, rfl⟩
    have hDL := hAt.D
    rw [hL] at hlb hDL
    simp only [hL] at hLv
    refine k_seq ?_
    refine k_sg ?_
    refine s_run rfl rfl (rmi rfl) ?_
    refine s_run rfl rfl (rms rfl) ?_
    refine s_run rfl rfl (r_len rfl Try.underlying25) ?_
    refine s_run rfl rfl (r_lssF rfl rfl (by omega)) ?_
    refine k_nc ?_
    refine k_f rfl ?_
    refine k_exit ?_
    refine c_exit ?_
    refine c_exit ?_
    refine b_hit ?_
    refine c_norm ?_
    refine k_sg ?_
    refine s_run rfl rfl (rms rfl) ?_
    refine s_call rfl (hLv H.only) (ca40 rfl) ?_
    rintro e W1 ⟨LA, lc, rfl, hll, H'⟩
    refine ⟨_, rfl, ?_⟩
    have H := H.more H'; clear H'; simp only [List.cons_append, List.nil_append] at H
    refine s_run rfl rfl (ras rfl) ?_
    refine k_nc ?_
    refine k_sg ?_
    refine s_run rfl rfl (rai rfl) ?_
    refine s_run rfl rfl (rai rfl) ?_
    refine k_nc ?_
    refine k_seq ?_
    refine k_sg ?_
    refine s_run rfl rfl (rai rfl) ?_
    refine k_nc ?_
    refine k_b ?_
    refine k_loop (fun z f W2 => ∃ (m : Nat), m ≤ L.length ∧ z = L.length - m ∧ f 1 = .int .i64 age ∧ f 2 = .int .i64 most ∧ f 7 = ptrC p ∧ f 9 = .slice AA all.length ac ∧ f 10 = .slice GA all.length gc ∧ f 11 = .slice KA all.length kc ∧ f 14 = .slice LA L.length lc ∧ f 15 = .int .i64 ((L.take m).filter fun x => decide (age ≤ x)).length ∧ f 16 = .int .i64 ((L.take m).filter fun x => decide (age < x)).length ∧ f 17 = .int .i64 m ∧ Heap W [] [ownN 1 (.slice LA L.length lc) L.length (L.map (Value.int .i64)) 3, ownN 1 (.slice KA all.length kc) all.length ((all.map fun a => Bt.highest (g a)).map (Value.int .i64)) 3, ownN 1 (.slice GA all.length gc) all.length ((all.map g).map (Value.int .i64)) 3] W2) L.length ⟨0, by omega, rfl, rfl, rfl, rfl, rfl, rfl, rfl, rfl, rfl, rfl, rfl, H⟩ ?_
    clear H
    rintro z f W2 ⟨m, hm, rfl, f1, f2, f7, f9, f10, f11, f14, f15, f16, f17, H⟩
    obtain ⟨f, rfl⟩ := live10S f1 f2 f7 f9 f10 f11 f14 f15 f16 f17
    clear f1 f2 f7 f9 f10 f11 f14 f15 f16 f17
    by_cases hml : m < L.length
    ·obtain ⟨x, hx⟩ : ∃ x, L[m]? = some x := ⟨_, List.getElem?_eq_getElem hml⟩
     obtain ⟨q, rfl⟩ := H.own_some 0 rfl (by omega)
     have hl1 : ((L.take m).filter fun x => decide (age ≤ x)).length ≤ 1800 := Nat.le_trans (List.length_filter_le _ _) (by rw [List.length_take]; omega)
     have hl2 : ((L.take m).filter fun x => decide (age < x)).length ≤ 1800 := Nat.le_trans (List.length_filter_le _ _) (by rw [List.length_take]; omega)
     have ht1 : (L.take (m + 1)).filter (fun x => decide (age ≤ x)) = (L.take m).filter (fun x => decide (age ≤ x)) ++ if age ≤ x then [x] else [] := by
      rw [← tk_snoc hx, List.filter_append]; by_cases h : age ≤ x <;> simp [h]
     have ht2 : (L.take (m + 1)).filter (fun x => decide (age < x)) = (L.take m).filter (fun x => decide (age < x)) ++ if age < x then [x] else [] := by
      rw [← tk_snoc hx, List.filter_append]; by_cases h : age < x <;> simp [h]
     generalize hc1 : (L.take m).filter (fun x => decide (age ≤ x)) = c1 at *
     generalize hc2 : (L.take m).filter (fun x => decide (age < x)) = c2 at *
     by_cases h1 : age ≤ x
     ·rw [if_pos h1] at ht1
      by_cases h2 : age < x
      ·rw [if_pos h2] at ht2
       refine k_seq ?_
       refine k_sg ?_
       refine s_run rfl rfl (rmi rfl) ?_
       refine s_run rfl rfl (rms rfl) ?_
       refine s_run rfl rfl (r_len rfl Try.underlying25) ?_
       refine s_run rfl rfl (r_lssT rfl rfl (by omega)) ?_
       refine k_nc ?_
       refine k_t rfl ?_
       refine k_skip ?_
       refine c_norm ?_
       refine k_seq ?_
       refine k_b ?_
       refine k_seq ?_
       refine k_sg ?_
       refine s_run rfl rfl (rms rfl) ?_
       refine s_run rfl rfl (rmi rfl) ?_
       refine s_run rfl rfl (r_ix1 (i := m) rfl rfl (by omega) (by omega) Try.underlying25 sz3) ?_
       refine s_run rfl rfl (r_ow H 0 rfl rfl hx ag3) ?_
       refine s_run rfl rfl (rmi rfl) ?_
       refine s_run rfl rfl (r_geqT rfl rfl (by omega)) ?_
       refine k_nc ?_
       refine k_t rfl ?_
       refine k_rg ?_
       refine s_run rfl rfl (rmi rfl) ?_
       refine s_run rfl rfl (r_add rfl rfl (wI (by omega))) ?_
       refine s_run rfl rfl (rai rfl) ?_
       refine k_nc ?_
       refine k_sg ?_
       refine s_run rfl rfl (rms rfl) ?_
       refine s_run rfl rfl (rmi rfl) ?_
       refine s_run rfl rfl (r_ix1 (i := m) rfl rfl (by omega) (by omega) Try.underlying25 sz3) ?_
       refine s_run rfl rfl (r_ow H 0 rfl rfl hx ag3) ?_
       refine s_run rfl rfl (rmi rfl) ?_
       refine s_run rfl rfl (r_gtrT rfl rfl (by omega)) ?_
       refine k_nc ?_
       refine k_t rfl ?_
       refine k_rg ?_
       refine s_run rfl rfl (rmi rfl) ?_
       refine s_run rfl rfl (r_add rfl rfl (wI (by omega))) ?_
       refine s_run rfl rfl (rai rfl) ?_
       refine k_nil ?_
       refine b_norm ?_
       refine c_norm ?_
       refine k_rg ?_
       refine s_run rfl rfl (rmi rfl) ?_
       refine s_run rfl rfl (r_add rfl rfl (wI (by omega))) ?_
       refine s_run rfl rfl (rai rfl) ?_
       refine k_nil ?_
       refine c_round ?_
       exact ⟨_, _, by omega, rfl, m + 1, by omega, rfl, rfl, rfl, rfl, rfl, rfl, rfl, rfl, by rw [ht1, List.length_append]; rfl, by rw [ht2, List.length_append]; rfl, rfl, H⟩
      ·rw [if_neg h2, List.append_nil] at ht2
       refine k_seq ?_
       refine k_sg ?_
       refine s_run rfl rfl (rmi rfl) ?_
       refine s_run rfl rfl (rms rfl) ?_
       refine s_run rfl rfl (r_len rfl Try.underlying25) ?_
       refine s_run rfl rfl (r_lssT rfl rfl (by omega)) ?_
       refine k_nc ?_
       refine k_t rfl ?_
       refine k_skip ?_
       refine c_norm ?_
       refine k_seq ?_
       refine k_b ?_
       refine k_seq ?_
       refine k_sg ?_
       refine s_run rfl rfl (rms rfl) ?_
       refine s_run rfl rfl (rmi rfl) ?_
       refine s_run rfl rfl (r_ix1 (i := m) rfl rfl (by omega) (by omega) Try.underlying25 sz3) ?_
       refine s_run rfl rfl (r_ow H 0 rfl rfl hx ag3) ?_
       refine s_run rfl rfl (rmi rfl) ?_
       refine s_run rfl rfl (r_geqT rfl rfl (by omega)) ?_
       refine k_nc ?_
       refine k_t rfl ?_
       refine k_rg ?_
       refine s_run rfl rfl (rmi rfl) ?_
       refine s_run rfl rfl (r_add rfl rfl (wI (by omega))) ?_
       refine s_run rfl rfl (rai rfl) ?_
       refine k_nc ?_
       refine k_sg ?_
       refine s_run rfl rfl (rms rfl) ?_
       refine s_run rfl rfl (rmi rfl) ?_
       refine s_run rfl rfl (r_ix1 (i := m) rfl rfl (by omega) (by omega) Try.underlying25 sz3) ?_
       refine s_run rfl rfl (r_ow H 0 rfl rfl hx ag3) ?_
       refine s_run rfl rfl (rmi rfl) ?_
       refine s_run rfl rfl (r_gtrF rfl rfl (by omega)) ?_
       refine k_nc ?_
       refine k_f rfl ?_
       refine k_skip ?_
       refine b_norm ?_
       refine c_norm ?_
       refine k_rg ?_
       refine s_run rfl rfl (rmi rfl) ?_
       refine s_run rfl rfl (r_add rfl rfl (wI (by omega))) ?_
       refine s_run rfl rfl (rai rfl) ?_
       refine k_nil ?_
       refine c_round ?_
       exact ⟨_, _, by omega, rfl, m + 1, by omega, rfl, rfl, rfl, rfl, rfl, rfl, rfl, rfl, by rw [ht1, List.length_append]; rfl, by rw [ht2]; rfl, rfl, H⟩
     ·rw [if_neg h1, List.append_nil] at ht1
      rw [if_neg (by omega), List.append_nil] at ht2
      refine k_seq ?_
      refine k_sg ?_
      refine s_run rfl rfl (rmi rfl) ?_
      refine s_run rfl rfl (rms rfl) ?_
      refine s_run rfl rfl (r_len rfl Try.underlying25) ?_
      refine s_run rfl rfl (r_lssT rfl rfl (by omega)) ?_
      refine k_nc ?_
      refine k_t rfl ?_
      refine k_skip ?_
      refine c_norm ?_
      refine k_seq ?_
      refine k_b ?_
      refine k_seq ?_
      refine k_sg ?_
      refine s_run rfl rfl (rms rfl) ?_
      refine s_run rfl rfl (rmi rfl) ?_
      refine s_run rfl rfl (r_ix1 (i := m) rfl rfl (by omega) (by omega) Try.underlying25 sz3) ?_
      refine s_run rfl rfl (r_ow H 0 rfl rfl hx ag3) ?_
      refine s_run rfl rfl (rmi rfl) ?_
      refine s_run rfl rfl (r_geqF rfl rfl (by omega)) ?_
      refine k_nc ?_
      refine k_f rfl ?_
      refine k_skip ?_
      refine c_norm ?_
      refine k_sg ?_
      refine s_run rfl rfl (rms rfl) ?_
      refine s_run rfl rfl (rmi rfl) ?_
      refine s_run rfl rfl (r_ix1 (i := m) rfl rfl (by omega) (by omega) Try.underlying25 sz3) ?_
      refine s_run rfl rfl (r_ow H 0 rfl rfl hx ag3) ?_
      refine s_run rfl rfl (rmi rfl) ?_
      refine s_run rfl rfl (r_gtrF rfl rfl (by omega)) ?_
      refine k_nc ?_
      refine k_f rfl ?_
      refine k_skip ?_
      refine b_norm ?_
      refine c_norm ?_
      refine k_rg ?_
      refine s_run rfl rfl (rmi rfl) ?_
      refine s_run rfl rfl (r_add rfl rfl (wI (by omega))) ?_
      refine s_run rfl rfl (rai rfl) ?_
      refine k_nil ?_
      refine c_round ?_
      exact ⟨_, _, by omega, rfl, m + 1, by omega, rfl, rfl, rfl, rfl, rfl, rfl, rfl, rfl, by rw [ht1]; rfl, by rw [ht2]; rfl, rfl, H⟩
    ·obtain rfl : m = L.length := by omega
     rw [List.take_length]
     have hlf := Cn.left_eq hDL (fun x hx => (hlb x hx).1) age
     have hl1 : (L.filter fun x => decide (age ≤ x)).length ≤ 1800 := Nat.le_trans (List.length_filter_le _ _) (by omega)
     have hl2 : (L.filter fun x => decide (age < x)).length ≤ 1800 := Nat.le_trans (List.length_filter_le _ _) (by omega)
     generalize (L.filter fun x => decide (age ≤ x)).length = c1 at *
     generalize (L.filter fun x => decide (age < x)).length = c2 at *
     refine k_seq ?_
     refine k_sg ?_
     refine s_run rfl rfl (rmi rfl) ?_
     refine s_run rfl rfl (rms rfl) ?_
     refine s_run rfl rfl (r_len rfl Try.underlying25) ?_
     refine s_run rfl rfl (r_lssF rfl rfl (by omega)) ?_
     refine k_nc ?_
     refine k_f rfl ?_
     refine k_exit ?_
     refine c_exit ?_
     refine c_exit ?_
     refine b_hit ?_
     refine c_norm ?_
     refine k_sg ?_
     refine s_run rfl rfl (rai rfl) ?_
     refine k_nc ?_
     refine k_seq ?_
     refine k_seq ?_
     refine k_cut (fun f W2 => f 1 = .int .i64 age ∧ f 2 = .int .i64 most ∧ f 7 = ptrC p ∧ f 9 = .slice AA all.length ac ∧ f 10 = .slice GA all.length gc ∧ f 11 = .slice KA all.length kc ∧ f 14 = .slice LA L.length lc ∧ f 15 = .int .i64 c1 ∧ f 16 = .int .i64 c2 ∧ f 18 = .int .i64 0 ∧ f 94 = .bool (decide (0 < c1)) ∧ Heap W [] [ownN 1 (.slice LA L.length lc) L.length (L.map (Value.int .i64)) 3, ownN 1 (.slice KA all.length kc) all.length ((all.map fun a => Bt.highest (g a)).map (Value.int .i64)) 3, ownN 1 (.slice GA all.length gc) all.length ((all.map g).map (Value.int .i64)) 3] W2) ?_ ?_
     ·by_cases h0 : 0 < c1
      ·rw [decide_eq_true h0]
       refine k_rg ?_
       refine s_run rfl rfl (rmi rfl) ?_
       refine s_run rfl rfl (r_gtrT rfl rfl (by omega)) ?_
       refine k_nil ?_
       refine k_met ?_
       exact ⟨rfl, rfl, rfl, rfl, rfl, rfl, rfl, rfl, rfl, rfl, rfl, H⟩
      ·rw [decide_eq_false h0]
       refine k_rg ?_
       refine s_run rfl rfl (rmi rfl) ?_
       refine s_run rfl rfl (r_gtrF rfl rfl (by omega)) ?_
       refine k_nil ?_
       refine k_met ?_
       exact ⟨rfl, rfl, rfl, rfl, rfl, rfl, rfl, rfl, rfl, rfl, rfl, H⟩
     clear H
     rintro f W2 ⟨f1, f2, f7, f9, f10, f11, f14, f15, f16, f18, f94, H⟩
     obtain ⟨f, rfl⟩ := live10S f1 f2 f7 f9 f10 f11 f14 f15 f16 f94
     clear f1 f2 f7 f9 f10 f11 f14 f15 f16 f94
     replace f18 : f 18 = .int .i64 0 := f18
     obtain ⟨f, rfl⟩ := live1 f18
     clear f18
     refine c_norm ?_
     refine k_cut (fun f W2 => f 1 = .int .i64 age ∧ f 2 = .int .i64 most ∧ f 7 = ptrC p ∧ f 9 = .slice AA all.length ac ∧ f 10 = .slice GA all.length gc ∧ f 11 = .slice KA all.length kc ∧ f 14 = .slice LA L.length lc ∧ f 18 = .int .i64 (Cn.left age (Cn.tbl D)) ∧ Heap W [] [ownN 1 (.slice LA L.length lc) L.length (L.map (Value.int .i64)) 3, ownN 1 (.slice KA all.length kc) all.length ((all.map fun a => Bt.highest (g a)).map (Value.int .i64)) 3, ownN 1 (.slice GA all.length gc) all.length ((all.map g).map (Value.int .i64)) 3] W2) ?_ ?_
     ·by_cases h0 : 0 < c1
      ·rw [decide_eq_true h0]
       rw [if_neg (by omega)] at hlf
       have hd1 : 0 ≤ 100 * (c2 : Int) / (c1 : Int) := Int.ediv_nonneg (by omega) (by omega)
       have hd2 : 100 * (c2 : Int) / (c1 : Int) ≤ 100 * (c2 : Int) := Int.ediv_le_self _ (by omega)
       rw [hlf]
       refine k_t rfl ?_
       refine k_rg ?_
       refine s_run rfl rfl (rmi rfl) ?_
       refine s_run rfl rfl (r_mul rfl rfl (wI (by omega))) ?_
       refine s_run rfl rfl (rmi rfl) ?_
       refine s_run rfl rfl (r_quo rfl rfl (by omega) (wI (by omega))) ?_
       refine s_run rfl rfl (rai rfl) ?_
       refine k_nil ?_
       refine k_met ?_
       exact ⟨rfl, rfl, rfl, rfl, rfl, rfl, rfl, rfl, H⟩
      ·rw [decide_eq_false h0]
       rw [if_pos (by omega)] at hlf
       rw [hlf]
       refine k_f rfl ?_
       refine k_skip ?_
       refine k_met ?_
       exact ⟨rfl, rfl, rfl, rfl, rfl, rfl, rfl, rfl, H⟩
     clear H
     rintro f W2 ⟨f1, f2, f7, f9, f10, f11, f14, f18, H⟩
     obtain ⟨f, rfl⟩ := live8S f1 f2 f7 f9 f10 f11 f14 f18
     clear f1 f2 f7 f9 f10 f11 f14 f18
     clear hlf
     have hgm : ∀ x ∈ all.map g, 1 ≤ x ∧ x ≤ 30 := fun x hx => by
      obtain ⟨a, ha, rfl⟩ := List.mem_map.1 hx
      exact hgb a ha
     have hkm : ∀ x ∈ all.map (fun a => Bt.highest (g a)), 0 ≤ x ∧ x ≤ 63 := fun x hx => by
      obtain ⟨a, ha, rfl⟩ := List.mem_map.1 hx
      have h1 := hgb a ha
      have h2 := Bt.highest_bd (g a) (by omega)
      refine ⟨?_, h2.2⟩
      show 0 ≤ Bt.highest (g a)
      unfold Bt.highest Bt.hb
      rw [if_neg (by omega)]
      omega
     have e1 : Cn.tbl (M.map Prod.snd) = Cn.tbl (all.map g) := Cn.tbl_perm ((hpm.map Prod.snd).trans (by rw [List.map_map]; exact List.Perm.refl _))
     have e2 : Cn.tbl (M.map fun x => Bt.highest x.2) = Cn.tbl (all.map fun a => Bt.highest (g a)) := Cn.tbl_perm ((hpm.map fun x => Bt.highest x.2).trans (by rw [List.map_map]; exact List.Perm.refl _))
     have e3 : Cn.tbl D = Cn.tbl L := Cn.tbl_perm hDL
     have hAges := fun {W3 : World} (hO : Only [] W W3) => cAges (hEl hO) (by omega) (fun x hx => by have := hM2 x hx; omega)
     have hCls := fun {W3 : World} (hO : Only [] W W3) => cClasses (hEl hO) (by omega) (fun x hx => by have := hM2 x hx; omega)
     have hLvd := fun {W3 : World} (hO : Only [] W W3) => cLived (hEl hO) (fun x hx => by have := hD1 x hx; omega)
     have hLft := fun {W3 : World} (hO : Only [] W W3) => cLeft (hEl hO) (by omega) (fun x hx => by have := hD1 x hx; omega) age
     have hOld := fun {W3 : World} (hO : Only [] W W3) (hSg : Sees (Value.int .i64) W3 [] GA (all.map g)) => oldest48 (hEl hO) hM2 AA GA all.length ac gc all (all.map g) (hSa.later hO (by simp)) hSg rfl (by rw [List.length_map]) hal hLs.rise (by rw [zip_map_self]; exact hpm.symm) most
     rw [e1] at hAges
     rw [e2] at hCls
     rw [e3] at hLvd
     have t1 := Cn.tbl_len 1000 (all.map g) (fun x hx => by have := hgm x hx; omega)
     have t2 := Cn.tbl_len 1000 (all.map fun a => Bt.highest (g a)) (fun x hx => by have := hkm x hx; omega)
     have t3 := Cn.tbl_len 1000 L (fun x hx => by have := hlb x hx; omega)
     refine c_norm ?_
     refine k_sg ?_
     refine s_run rfl rfl (rmp rfl) ?_
     refine s_call rfl (hAges H.only) (ca41 rfl) ?_
     rintro e W1 ⟨A1, c1, rfl, H'⟩
     refine ⟨_, rfl, ?_⟩
     have H := H.more H'; clear H'; simp only [List.cons_append, List.nil_append] at H
     refine s_run rfl rfl (rms rfl) ?_
     refine s_call rfl (rTable _ _ _ _ _ (H.own_sees 3 rfl) (by rw [List.length_map]) (by omega) (fun x hx => by have := hgm x hx; omega)) (ca42 rfl) ?_
     rintro e W1 ⟨A2, c2, rfl, H'⟩
     refine ⟨_, rfl, ?_⟩
     have H := H.more H'; clear H'; simp only [List.cons_append, List.nil_append] at H
     refine s_call rfl (rIntsT _ _ _ _ _ _ _ (H.own_sees 1 rfl) (H.own_sees 0 rfl) rfl (by omega)) (ca12 rfl) ?_
     rintro e W1 ⟨rfl, H'⟩
     refine ⟨_, rfl, ?_⟩
     have H := (H.same H').drop.drop; clear H'
     refine s_run rfl rfl (rmb rfl) ?_
     refine s_run rfl (g_on 104 (by kernel_rfl) rfl) (rmp rfl) ?_
     refine s_call (g_on 104 (by kernel_rfl) rfl) (hCls H.only) (ca43 rfl) ?_
     rintro e W1 ⟨A3, c3, rfl, H'⟩
     refine ⟨_, rfl, ?_⟩
     have H := H.more H'; clear H'; simp only [List.cons_append, List.nil_append] at H
     refine s_run rfl (g_on 104 (by kernel_rfl) rfl) (rms rfl) ?_
     refine s_call (g_on 104 (by kernel_rfl) rfl) (rTable _ _ _ _ _ (H.own_sees 2 rfl) (by rw [List.length_map]) (by omega) (fun x hx => by have := hkm x hx; omega)) (ca42 rfl) ?_
     rintro e W1 ⟨A4, c4, rfl, H'⟩
     refine ⟨_, rfl, ?_⟩
     have H := H.more H'; clear H'; simp only [List.cons_append, List.nil_append] at H
     refine s_call (g_on 104 (by kernel_rfl) rfl) (rIntsT _ _ _ _ _ _ _ (H.own_sees 1 rfl) (H.own_sees 0 rfl) rfl (by omega)) (ca12 rfl) ?_
     rintro e W1 ⟨rfl, H'⟩
     refine ⟨_, rfl, ?_⟩
     have H := (H.same H').drop.drop; clear H'
     refine s_run rfl rfl (r_pkT (v := .bool _) rfl rfl) ?_
     refine s_run rfl rfl (rmb rfl) ?_
     refine s_run rfl (g_on 111 (by kernel_rfl) rfl) (rmp rfl) ?_
     refine s_call (g_on 111 (by kernel_rfl) rfl) (hLvd H.only) (ca44 rfl) ?_
     rintro e W1 ⟨A5, c5, rfl, H'⟩
     refine ⟨_, rfl, ?_⟩
     have H := H.more H'; clear H'; simp only [List.cons_append, List.nil_append] at H
     refine s_run rfl (g_on 111 (by kernel_rfl) rfl) (rms rfl) ?_
     refine s_call (g_on 111 (by kernel_rfl) rfl) (rTable _ _ _ _ _ (H.own_sees 1 rfl) rfl (by omega) (fun x hx => by have := hlb x hx; omega)) (ca42 rfl) ?_
     rintro e W1 ⟨A6, c6, rfl, H'⟩
     refine ⟨_, rfl, ?_⟩
     have H := H.more H'; clear H'; simp only [List.cons_append, List.nil_append] at H
     refine s_call (g_on 111 (by kernel_rfl) rfl) (rIntsT _ _ _ _ _ _ _ (H.own_sees 1 rfl) (H.own_sees 0 rfl) rfl (by omega)) (ca12 rfl) ?_
     rintro e W1 ⟨rfl, H'⟩
     refine ⟨_, rfl, ?_⟩
     have H := (H.same H').drop.drop; clear H'
     refine s_run rfl rfl (r_pkT (v := .bool _) rfl rfl) ?_
     refine s_run rfl rfl (rmb rfl) ?_
     refine s_run rfl (g_on 118 (by kernel_rfl) rfl) (rmp rfl) ?_
     refine s_run rfl (g_on 118 (by kernel_rfl) rfl) (rmi rfl) ?_
     refine s_call (g_on 118 (by kernel_rfl) rfl) (hLft H.only) (ca45 rfl) ?_
     rintro e W1 ⟨rfl, H'⟩
     refine ⟨_, rfl, ?_⟩
     have H := H.same H'; clear H'
     refine s_run rfl (g_on 118 (by kernel_rfl) rfl) (rmi rfl) ?_
     refine s_run rfl (g_on 118 (by kernel_rfl) rfl) (r_eqlT rfl rfl (by omega)) ?_
     refine s_run rfl rfl (r_pkT (v := .bool _) rfl rfl) ?_
     refine s_run rfl rfl (rmb rfl) ?_
     refine s_run rfl (g_on 125 (by kernel_rfl) rfl) (rmp rfl) ?_
     refine s_run rfl (g_on 125 (by kernel_rfl) rfl) (rms rfl) ?_
     refine s_run rfl (g_on 125 (by kernel_rfl) rfl) (rms rfl) ?_
     refine s_run rfl (g_on 125 (by kernel_rfl) rfl) (rmi rfl) ?_
     refine s_call (g_on 125 (by kernel_rfl) rfl) (hOld H.only (H.own_sees 2 rfl)) (ca46 rfl) ?_
     rintro e W1 ⟨rfl, H'⟩
     refine ⟨_, rfl, ?_⟩
     have H := H.same H'; clear H'
     refine s_run rfl rfl (r_pkT (v := .bool _) rfl rfl) ?_
     refine s_run rfl rfl (rab rfl) ?_
     refine k_nc ?_
     refine k_ret ?_
     refine fin1r (v := .bool _) rfl rfl ?_
     exact ⟨rfl, HB.only.trans H.only⟩
theorem walk_CensusAges (x0 : Option Addr × Nat × Nat × List CRow) (a1 a2 : Int) (w : World) (h0 : ScriptC w x0.1 x0.2.2.2 ∧ x0.2.2.2.length = x0.2.1 ∧ x0.2.1 ≤ 9223372036854775807 ∧ x0.2.1 ≤ x0.2.2.1) (w1 : (Lit.int .i64 a1).wf = true) (w2 : (Lit.int .i64 a2).wf = true) :
  Calls Try.prog 7 #[.slice x0.1 x0.2.1 x0.2.2.1, .int .i64 a1, .int .i64 a2] w fun e w' => e = .returned (.bool true) ∧ Below w.heap.size w w' :=
 (law48 x0.1 x0.2.1 x0.2.2.1 x0.2.2.2 a1 a2 w h0.1 h0.2.1 h0.2.2.1 h0.2.2.2).mono fun _ _ ⟨h1, h2⟩ => ⟨h1, h2.below⟩
end Go.Proofs.Ytlakbclnilakbaa
end

section
namespace Go.Proofs.Ytlakbclnilakbaa.lCensusAges
open Go.ChangeShapes Go.WideShapes Go.ChangeAt Go.RowKit
theorem own : ownKnob Try.prog.godebug = none := by kernel_rfl
theorem laidOut : laidOutB Try.prog = true := by kernel_rfl
set_option maxRecDepth 100000 in
theorem lifted (os : Os) (started : os.Started) (H : Type) (enc : TypeId × Value → H) :
  ReturnsInHanded {} Try.checked os 7 .any (Rows.censusAgesSpec.pre6 enc Try.prog Try.f7 Rows.censusAgesRow.domain false) (Rows.censusAgesSpec.post enc Try.prog Try.f7 false true false false) := by
 refine returnsInHanded_of_change (C := Try.checked) own started (by kernel_rfl) Try.func7
  (ChangeSpec.witness6 (enc := enc) (C := Try.checked) false ⟨#[], #[.slice none 0 0, .int .i64 0, .int .i64 0], []⟩ 8 (by kernel_rfl) (by kernel_rfl) (by kernel_rfl) (by kernel_rfl)) ?_
 intro W base args ds gs before hval0 hW hcnd _
 have hval : ∀ (j : Nat) t v, Try.f7.params[j]? = some t → args[j]? = some v → Value.okWide Try.prog W .any base t v := hval0
 have hW' := hW
 obtain ⟨p, q, hA0, hV, rfl, hfz, hnd⟩ := hW
 have hA : DataW.TrodAll enc Try.prog W 0 (fun _ => true) true Try.f7.params.toList args.toList ds p := hA0
 rw [Try.params7] at hA hval
 obtain ⟨v0, vs0, d0, ds0, p0, q0, hargs, rfl, rfl, h0, r0⟩ := trodAll_cons hA
 obtain ⟨v1, vs1, d1, ds1, p1, q1, rfl, rfl, rfl, h1, r1⟩ := trodAll_cons r0
 obtain ⟨v2, vs2, d2, ds2, p2, q2, rfl, rfl, rfl, h2, r2⟩ := trodAll_cons r1
 obtain ⟨rfl, rfl, rfl⟩ := trodAll_nil r2
 obtain rfl : args = #[v0, v1, v2] := by cases args; simp_all
 obtain ⟨rfl, rfl⟩ := trodVars_none hV
 have k0 := h0
 have lt0 : ∀ x ∈ p0, x.block < W.heap.size := by obtain ⟨m, hm⟩ := k0; exact DataW.trod_lt m _ _ _ hm
 have k1 := h1
 have lt1 : ∀ x ∈ p1, x.block < W.heap.size := by obtain ⟨m, hm⟩ := k1; exact DataW.trod_lt m _ _ _ hm
 have k2 := h2
 have lt2 : ∀ x ∈ p2, x.block < W.heap.size := by obtain ⟨m, hm⟩ := k2; exact DataW.trod_lt m _ _ _ hm
 obtain ⟨x0, rfl, w0⟩ := opens_C W base v0 d0 p0 (hval 0 69 v0 rfl rfl) h0
 obtain ⟨a1, rfl, rfl, rfl, w1⟩ := open_int Try.underlying3 (hval 1 3 v1 rfl rfl) h1
 obtain ⟨a2, rfl, rfl, rfl, w2⟩ := open_int Try.underlying3 (hval 2 3 v2 rfl rfl) h2
 clear hA0 hval0
 refine (walk_CensusAges x0 a1 a2 W w0 w1 w2).mono fun e W' ⟨he, bel⟩ => ?_
 subst he
 exact ⟨_, rfl, _, _, _, [], _, [], hW', trodAll_mk1 (shut_bool Try.underlying4 _), (trodAll_cons_mk (Below.trod laidOut (by kernel_rfl) (of_decide_eq_true (by kernel_rfl)) k0 bel lt0) (trodAll_cons_mk (Below.trod laidOut (by kernel_rfl) (of_decide_eq_true (by kernel_rfl)) k1 bel lt1) (trodAll_cons_mk (Below.trod laidOut (by kernel_rfl) (of_decide_eq_true (by kernel_rfl)) k2 bel lt2) trodAll_mk0))), rfl, bel.frame _, fun h => by cases h⟩
theorem over : Rows.censusAgesRow.holds Try.pinned (OpenSpec.ofChange Rows.censusAgesSpec) :=
 OpenClaim.holds_of_wide 7 Try.f7 rfl rfl rfl rfl rfl rfl rfl ⟨rfl, rfl, rfl, rfl, rfl⟩ rfl rfl rfl rfl rfl (by kernel_rfl) Try.func7 (by kernel_rfl)
  (of_decide_eq_true (by kernel_rfl)) (by unfold Func.isWrapper; first | (rw [if_pos (by decide +kernel)]; kernel_rfl) | (rw [if_neg (by decide +kernel)]; exact ⟨rfl, rfl⟩))
  (fun os started H enc _ => lifted os started H enc)
theorem proved : Rows.CensusAgesSaid := over
#print axioms proved
end Go.Proofs.Ytlakbclnilakbaa.lCensusAges
end
