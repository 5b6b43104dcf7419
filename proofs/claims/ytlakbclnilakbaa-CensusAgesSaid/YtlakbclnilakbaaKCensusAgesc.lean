/- Parts of the proof, one behind the other. -/
import Derived.Shelf.SlSortCmp.WholeK
import Derived.Ground.SlsfProg
import Derived.Shelf.SlSortCmp.NoneTotal
import Derived.Test.YtlakbclnilakbaaKCensusAgesb
set_option linter.unusedSimpArgs false
set_option linter.unusedVariables false
set_option linter.unusedSectionVars false
section
namespace Go.Proofs.Ytlakbclnilakbaa
open Go.RowKit
set_option maxRecDepth 100000
set_option maxHeartbeats 4000000
open St (Q)
theorem half {a : Int} {q : Nat} (h0 : 0 ≤ a) (h : a / 2 = q) : a.fdiv (2 ^ 1) = (q : Int) := by
 rw [Int.fdiv_eq_ediv_of_nonneg _ (by decide)]; exact h
theorem mid_swap2 {P R : List Q} {x y : Q} : ((P ++ [x] ++ [y] ++ R).set P.length y).set (P.length + 1) x = P ++ [y] ++ [x] ++ R := by
 have e1 : P ++ [x] ++ [y] ++ R = P ++ (x :: y :: R) := by simp
 rw [e1, List.set_append_right _ _ (by omega), Nat.sub_self, List.set_append_right _ _ (by omega), show P.length + 1 - P.length = 1 by omega]
 simp
theorem at_L {P X R : List Q} {i : Nat} {x : Q} (h : X[i]? = some x) : (P ++ X ++ R)[P.length + i]? = some x := by
 have := (List.getElem?_eq_some_iff.1 h).1
 rw [List.getElem?_append_left (by rw [List.length_append]; omega), List.getElem?_append_right (by omega), show P.length + i - P.length = i by omega]; exact h
theorem take_snocQ {l : List Q} {k : Nat} {x : Q} (h : l[k]? = some x) : l.take (k + 1) = l.take k ++ [x] := (tk_snoc h).symm
theorem drop_consQ {l : List Q} {k : Nat} {x : Q} (h : l[k]? = some x) : l.drop k = [x] ++ l.drop (k + 1) := by
 obtain ⟨h2, h3⟩ := List.getElem?_eq_some_iff.1 h
 rw [List.drop_eq_getElem_cons h2, h3]; rfl
theorem zSymL (p c n : Nat) (rs : List Value) (A : List Q) (x : Q) (Y Z : List Q) (w : World) (hE : Ents [prow p (A ++ [x] ++ Y ++ Z) rs 132] w) (hl : (A ++ [x] ++ Y ++ Z).length = n) (hn : n ≤ 1000000) (hY : Y.Pairwise St.le) (hc : St.Cross [x] Y) (hxb : 0 ≤ x.2 ∧ x.2 ≤ 1099511627776) (hb : Bd Y) (m b : Nat) (hm : m = A.length + 1) (hbb : b = A.length + 1 + Y.length) :
  Calls Try.prog 149 [.slice (some ⟨p, 0, none⟩) n c, .int .i64 A.length, .int .i64 m, .int .i64 b, cmpF].toArray w fun e w' => e = .returned (.tuple #[]) ∧ Heap w (ids [prow p (A ++ [x] ++ Y ++ Z) rs 132]) [prow p (A ++ St.ps ([x] ++ Y) ++ Z) rs 132] w' := by
 have H := Heap.start hE
 generalize ids [prow p (A ++ [x] ++ Y ++ Z) rs 132] = I at *
 have hln := hl
 simp only [List.length_append, List.length_cons, List.length_nil] at hln
 have hax : (A ++ [x] ++ Y ++ Z)[A.length]? = some x := by rw [List.append_assoc (A ++ [x])]; exact mid_at
 have hAx : (A ++ [x]).length = m := by rw [List.length_append, hm]; rfl
 refine k_in (N := 220) Try.func149 rfl rfl rfl ?_
 refine k_seq ?_
 refine k_sg ?_
 refine s_run rfl rfl (rmi rfl) ?_
 refine s_run rfl rfl (rmi rfl) ?_
 refine s_run rfl rfl (r_sub rfl rfl (wI (by omega))) ?_
 refine s_run rfl rfl (r_eqlT rfl rfl (by omega)) ?_
 refine k_nc ?_
 refine k_t rfl ?_
 refine k_sg ?_
 refine s_run rfl rfl (rmi rfl) ?_
 refine s_run rfl rfl (rai rfl) ?_
 refine k_nc ?_
 refine k_sg ?_
 refine s_run rfl rfl (rmi rfl) ?_
 refine s_run rfl rfl (rai rfl) ?_
 refine k_nc ?_
 refine k_seq ?_
 refine k_b ?_
 refine k_loop (fun z f W => ∃ (i j : Nat), i ≤ j ∧ j ≤ Y.length ∧ z = j - i ∧ (∀ k y, k < i → Y[k]? = some y → y.2 > x.2) ∧ (∀ k y, j ≤ k → Y[k]? = some y → ¬ y.2 > x.2) ∧ f 0 = .slice (some ⟨p, 0, none⟩) n c ∧ f 1 = .int .i64 A.length ∧ f 4 = cmpF ∧ f 10 = .int .i64 (m + i : Nat) ∧ f 11 = .int .i64 (m + j : Nat) ∧ Heap w I [prow p (A ++ [x] ++ Y ++ Z) rs 132] W) Y.length ⟨0, Y.length, by omega, by omega, rfl, (fun k y h => by omega), (fun k y h1 h2 => by rw [List.getElem?_eq_none h1] at h2; cases h2), rfl, rfl, rfl, rfl, by rw [hbb, hm]; rfl, H⟩ ?_
 clear H
 rintro z f W ⟨i, j, hij, hjl, rfl, hlo, hhi, f0, f1, f4, f10, f11, H⟩
 obtain ⟨f, rfl⟩ := live5 f0 f1 f4 f10 f11
 clear f0 f1 f4 f10 f11
 by_cases hlt : i < j
 ·obtain ⟨q, hq⟩ : ∃ q, (i + j) / 2 = q := ⟨_, rfl⟩
  obtain ⟨y, hy⟩ : ∃ y, Y[q]? = some y := ⟨_, List.getElem?_eq_getElem (by omega)⟩
  have hyb := hb y (List.mem_of_getElem? hy)
  have hay : (A ++ [x] ++ Y ++ Z)[m + q]? = some y := by rw [← hAx]; exact at_L hy
  have hC := fun (W : World) => zCmp y x W hyb hxb
  by_cases hgt : y.2 > x.2
  ·refine k_seq ?_
   refine k_sg ?_
   refine s_run rfl rfl (rmi rfl) ?_
   refine s_run rfl rfl (rmi rfl) ?_
   refine s_run rfl rfl (r_lssT rfl rfl (by omega)) ?_
   refine k_nc ?_
   refine k_t rfl ?_
   refine k_skip ?_
   refine c_norm ?_
   refine k_b ?_
   refine k_sg ?_
   refine s_run rfl rfl (rmi rfl) ?_
   refine s_run rfl rfl (rmi rfl) ?_
   refine s_run rfl rfl (r_add rfl rfl (wI (by omega))) ?_
   refine s_run rfl rfl (r_cv rfl (by kernel_rfl) Try.underlying144 (wU (by omega))) ?_
   refine s_run rfl rfl (r_shrS (s := 1) (c := (m + q : Nat)) rfl rfl rfl (by decide) (half (by omega) (by omega))) ?_
   refine s_run rfl rfl (r_cv rfl (by kernel_rfl) Try.underlying3 (wI (by omega))) ?_
   refine s_run rfl rfl (rai rfl) ?_
   refine k_nc ?_
   refine k_seq ?_
   refine k_trF mixed ?_; have H' := H.drew; clear H; have H := H'; clear H'
   refine tqh 0 rfl rfl rfl (fun _ hS => r_mv (v := .func _ _ _) rfl) trivial ?_
   refine tqh 1 rfl rfl rfl (fun _ hS => r_mv (v := .slice _ _ _) rfl) trivial ?_
   refine tqh 2 rfl rfl rfl (fun _ hS => r_mv (v := .int _ _) rfl) trivial ?_
   refine tqh 3 rfl rfl rfl (fun _ hS => r_ix0 (i := (m + q)) rfl rfl (by omega) (by omega) Try.underlying129 sz132) trivial ?_
   refine tqh 5 rfl rfl rfl (fun _ hS => r_mv (v := .slice _ _ _) rfl) trivial ?_
   refine tqh 6 rfl rfl rfl (fun _ hS => r_mv (v := .int _ _) rfl) trivial ?_
   refine tqh 7 rfl rfl rfl (fun _ hS => r_ix0 (i := A.length) rfl rfl (by omega) (by omega) Try.underlying129 sz132) trivial ?_
   refine t_up2 4 8 (by kernel_rfl) ?_ ?_
   ·refine up_mk rfl ?_
    refine s_run rfl rfl (r_lP H 0 rfl rfl hay ag132 sz132) ?_
    refine k_nil ?_
    refine t_on trivial ?_
    refine t_up1 8 (by kernel_rfl) ?_
    refine up_mk rfl ?_
    refine s_run rfl rfl (r_lP H 0 rfl rfl hax ag132 sz132) ?_
    refine k_nil ?_
    refine t_on trivial ?_
    refine t_up1 9 (by kernel_rfl) ?_
    refine up_mk rfl ?_
    refine s_callV rfl rfl rfl Try.func96 (by kernel_rfl) (by kernel_rfl) (hC _) ?_
    rintro e W1 ⟨rfl, H'⟩
    refine ⟨_, rfl, ?_⟩
    have H := H.same H'; clear H'
    refine k_nil ?_
    refine t_on trivial ?_
    refine tqh 10 rfl rfl rfl (fun _ hS => r_lssT rfl rfl (by omega)) trivial ?_
    refine t_done (by kernel_rfl) ?_
    refine c_norm ?_
    refine k_t rfl ?_
    refine k_rg ?_
    refine s_run rfl rfl (rmi rfl) ?_
    refine s_run rfl rfl (r_add rfl rfl (wI (by omega))) ?_
    refine s_run rfl rfl (rai rfl) ?_
    refine k_nil ?_
    refine b_norm ?_
    refine c_round ?_
    exact ⟨_, _, by omega, rfl, q + 1, j, by omega, by omega, rfl, (fun k u h1 h2 => by have := St.getle hY h2 hy (by omega); omega), hhi, rfl, rfl, rfl, rfl, rfl, H⟩
   ·refine up_mk rfl ?_
    refine s_run rfl rfl (r_lP H 0 rfl rfl hax ag132 sz132) ?_
    refine k_nil ?_
    refine t_on trivial ?_
    refine t_up1 4 (by kernel_rfl) ?_
    refine up_mk rfl ?_
    refine s_run rfl rfl (r_lP H 0 rfl rfl hay ag132 sz132) ?_
    refine k_nil ?_
    refine t_on trivial ?_
    refine t_up1 9 (by kernel_rfl) ?_
    refine up_mk rfl ?_
    refine s_callV rfl rfl rfl Try.func96 (by kernel_rfl) (by kernel_rfl) (hC _) ?_
    rintro e W1 ⟨rfl, H'⟩
    refine ⟨_, rfl, ?_⟩
    have H := H.same H'; clear H'
    refine k_nil ?_
    refine t_on trivial ?_
    refine tqh 10 rfl rfl rfl (fun _ hS => r_lssT rfl rfl (by omega)) trivial ?_
    refine t_done (by kernel_rfl) ?_
    refine c_norm ?_
    refine k_t rfl ?_
    refine k_rg ?_
    refine s_run rfl rfl (rmi rfl) ?_
    refine s_run rfl rfl (r_add rfl rfl (wI (by omega))) ?_
    refine s_run rfl rfl (rai rfl) ?_
    refine k_nil ?_
    refine b_norm ?_
    refine c_round ?_
    exact ⟨_, _, by omega, rfl, q + 1, j, by omega, by omega, rfl, (fun k u h1 h2 => by have := St.getle hY h2 hy (by omega); omega), hhi, rfl, rfl, rfl, rfl, rfl, H⟩
  ·refine k_seq ?_
   refine k_sg ?_
   refine s_run rfl rfl (rmi rfl) ?_
   refine s_run rfl rfl (rmi rfl) ?_
   refine s_run rfl rfl (r_lssT rfl rfl (by omega)) ?_
   refine k_nc ?_
   refine k_t rfl ?_
   refine k_skip ?_
   refine c_norm ?_
   refine k_b ?_
   refine k_sg ?_
   refine s_run rfl rfl (rmi rfl) ?_
   refine s_run rfl rfl (rmi rfl) ?_
   refine s_run rfl rfl (r_add rfl rfl (wI (by omega))) ?_
   refine s_run rfl rfl (r_cv rfl (by kernel_rfl) Try.underlying144 (wU (by omega))) ?_
   refine s_run rfl rfl (r_shrS (s := 1) (c := (m + q : Nat)) rfl rfl rfl (by decide) (half (by omega) (by omega))) ?_
   refine s_run rfl rfl (r_cv rfl (by kernel_rfl) Try.underlying3 (wI (by omega))) ?_
   refine s_run rfl rfl (rai rfl) ?_
   refine k_nc ?_
   refine k_seq ?_
   refine k_trF mixed ?_; have H' := H.drew; clear H; have H := H'; clear H'
   refine tqh 0 rfl rfl rfl (fun _ hS => r_mv (v := .func _ _ _) rfl) trivial ?_
   refine tqh 1 rfl rfl rfl (fun _ hS => r_mv (v := .slice _ _ _) rfl) trivial ?_
   refine tqh 2 rfl rfl rfl (fun _ hS => r_mv (v := .int _ _) rfl) trivial ?_
   refine tqh 3 rfl rfl rfl (fun _ hS => r_ix0 (i := (m + q)) rfl rfl (by omega) (by omega) Try.underlying129 sz132) trivial ?_
   refine tqh 5 rfl rfl rfl (fun _ hS => r_mv (v := .slice _ _ _) rfl) trivial ?_
   refine tqh 6 rfl rfl rfl (fun _ hS => r_mv (v := .int _ _) rfl) trivial ?_
   refine tqh 7 rfl rfl rfl (fun _ hS => r_ix0 (i := A.length) rfl rfl (by omega) (by omega) Try.underlying129 sz132) trivial ?_
   refine t_up2 4 8 (by kernel_rfl) ?_ ?_
   ·refine up_mk rfl ?_
    refine s_run rfl rfl (r_lP H 0 rfl rfl hay ag132 sz132) ?_
    refine k_nil ?_
    refine t_on trivial ?_
    refine t_up1 8 (by kernel_rfl) ?_
    refine up_mk rfl ?_
    refine s_run rfl rfl (r_lP H 0 rfl rfl hax ag132 sz132) ?_
    refine k_nil ?_
    refine t_on trivial ?_
    refine t_up1 9 (by kernel_rfl) ?_
    refine up_mk rfl ?_
    refine s_callV rfl rfl rfl Try.func96 (by kernel_rfl) (by kernel_rfl) (hC _) ?_
    rintro e W1 ⟨rfl, H'⟩
    refine ⟨_, rfl, ?_⟩
    have H := H.same H'; clear H'
    refine k_nil ?_
    refine t_on trivial ?_
    refine tqh 10 rfl rfl rfl (fun _ hS => r_lssF rfl rfl (by omega)) trivial ?_
    refine t_done (by kernel_rfl) ?_
    refine c_norm ?_
    refine k_f rfl ?_
    refine k_rg ?_
    refine s_run rfl rfl (rmi rfl) ?_
    refine s_run rfl rfl (rai rfl) ?_
    refine k_nil ?_
    refine b_norm ?_
    refine c_round ?_
    exact ⟨_, _, by omega, rfl, i, q, by omega, by omega, rfl, hlo, (fun k u h1 h2 => by have := St.getle hY hy h2 h1; omega), rfl, rfl, rfl, rfl, rfl, H⟩
   ·refine up_mk rfl ?_
    refine s_run rfl rfl (r_lP H 0 rfl rfl hax ag132 sz132) ?_
    refine k_nil ?_
    refine t_on trivial ?_
    refine t_up1 4 (by kernel_rfl) ?_
    refine up_mk rfl ?_
    refine s_run rfl rfl (r_lP H 0 rfl rfl hay ag132 sz132) ?_
    refine k_nil ?_
    refine t_on trivial ?_
    refine t_up1 9 (by kernel_rfl) ?_
    refine up_mk rfl ?_
    refine s_callV rfl rfl rfl Try.func96 (by kernel_rfl) (by kernel_rfl) (hC _) ?_
    rintro e W1 ⟨rfl, H'⟩
    refine ⟨_, rfl, ?_⟩
    have H := H.same H'; clear H'
    refine k_nil ?_
    refine t_on trivial ?_
    refine tqh 10 rfl rfl rfl (fun _ hS => r_lssF rfl rfl (by omega)) trivial ?_
    refine t_done (by kernel_rfl) ?_
    refine c_norm ?_
    refine k_f rfl ?_
    refine k_rg ?_
    refine s_run rfl rfl (rmi rfl) ?_
    refine s_run rfl rfl (rai rfl) ?_
    refine k_nil ?_
    refine b_norm ?_
    refine c_round ?_
    exact ⟨_, _, by omega, rfl, i, q, by omega, by omega, rfl, hlo, (fun k u h1 h2 => by have := St.getle hY hy h2 h1; omega), rfl, rfl, rfl, rfl, rfl, H⟩
 obtain rfl : i = j := by omega
 have hYe : Y = Y.take i ++ Y.drop i := (List.take_append_drop i Y).symm
 have h1 : ∀ y ∈ Y.take i, y.2 > x.2 := fun y hy => by
  obtain ⟨k, hk, rfl⟩ := List.mem_iff_getElem.1 hy
  rw [List.length_take] at hk
  exact hlo k _ (by omega) (by rw [List.getElem_take]; exact List.getElem?_eq_getElem (by omega))
 have h2 : ∀ y ∈ Y.drop i, ¬ y.2 > x.2 := fun y hy => by
  obtain ⟨k, hk, rfl⟩ := List.mem_iff_getElem.1 hy
  rw [List.length_drop] at hk
  exact hhi (i + k) _ (by omega) (by rw [List.getElem_drop]; exact List.getElem?_eq_getElem (by omega))
 have hres := St.ins_left (x := x) (Y1 := Y.take i) (Y2 := Y.drop i) (by rw [← hYe]; exact hY) (by rw [← hYe]; exact hc) h1 h2
 rw [← hYe] at hres
 have hYl : (Y.take i).length = i := by rw [List.length_take]; omega
 have e1 : A ++ [x] ++ Y ++ Z = A ++ (Y.take i).take 0 ++ [x] ++ ((Y.take i).drop 0 ++ (Y.drop i ++ Z)) := by
  simp only [List.take_zero, List.drop_zero, List.append_nil]
  rw [← List.append_assoc (Y.take i), List.take_append_drop]; simp only [List.append_assoc]
 rw [e1] at H
 rw [← hres]
 generalize Y.take i = Y1 at *
 generalize Y.drop i = Y2 at *
 refine k_seq ?_
 refine k_sg ?_
 refine s_run rfl rfl (rmi rfl) ?_
 refine s_run rfl rfl (rmi rfl) ?_
 refine s_run rfl rfl (r_lssF rfl rfl (by omega)) ?_
 refine k_nc ?_
 refine k_f rfl ?_
 refine k_exit ?_
 refine c_exit ?_
 refine c_exit ?_
 refine b_hit ?_
 refine c_norm ?_
 refine k_seq ?_
 refine k_sg ?_
 refine s_run rfl rfl (rmi rfl) ?_
 refine s_run rfl rfl (rai rfl) ?_
 refine k_nc ?_
 refine k_b ?_
 refine k_loop (fun z f W => ∃ (q : Nat), q ≤ i ∧ z = i - q ∧ f 0 = .slice (some ⟨p, 0, none⟩) n c ∧ f 10 = .int .i64 (m + i : Nat) ∧ f 13 = .int .i64 (A.length + q : Nat) ∧ Heap w I [prow p (A ++ Y1.take q ++ [x] ++ (Y1.drop q ++ (Y2 ++ Z))) rs 132] W) i ⟨0, by omega, rfl, rfl, rfl, rfl, H⟩ ?_
 clear H
 rintro z f W ⟨q, hq, rfl, f0, f10, f13, H⟩
 obtain ⟨f, rfl⟩ := live3 f0 f10 f13
 clear f0 f10 f13
 by_cases hqi : q < i
 ·obtain ⟨y, hy⟩ : ∃ y, Y1[q]? = some y := ⟨_, List.getElem?_eq_getElem (by omega)⟩
  have hpl : (A ++ Y1.take q).length = A.length + q := by rw [List.length_append, List.length_take]; omega
  have e2 : A ++ Y1.take q ++ [x] ++ (Y1.drop q ++ (Y2 ++ Z)) = A ++ Y1.take q ++ [x] ++ [y] ++ (Y1.drop (q + 1) ++ (Y2 ++ Z)) := by rw [drop_consQ hy]; simp
  have hx2 : (A ++ Y1.take q ++ [x] ++ (Y1.drop q ++ (Y2 ++ Z)))[A.length + q]? = some x := by rw [← hpl]; exact mid_at
  have hy2 : (A ++ Y1.take q ++ [x] ++ (Y1.drop q ++ (Y2 ++ Z)))[A.length + q + 1]? = some y := by
   rw [e2, show A.length + q + 1 = (A ++ Y1.take q ++ [x]).length by rw [List.length_append, hpl]; rfl]; exact mid_at
  have hst : ((A ++ Y1.take q ++ [x] ++ (Y1.drop q ++ (Y2 ++ Z))).set (A.length + q) y).set (A.length + q + 1) x = A ++ Y1.take (q + 1) ++ [x] ++ (Y1.drop (q + 1) ++ (Y2 ++ Z)) := by
   rw [e2, ← hpl, mid_swap2, take_snocQ hy]; simp
  have hl2 := (List.getElem?_eq_some_iff.1 hy2).1
  have hll : A.length + q + 1 < n := by omega
  refine k_seq ?_
  refine k_sg ?_
  refine s_run rfl rfl (rmi rfl) ?_
  refine s_run rfl rfl (rmi rfl) ?_
  refine s_run rfl rfl (r_sub rfl rfl (wI (by omega))) ?_
  refine s_run rfl rfl (r_lssT rfl rfl (by omega)) ?_
  refine k_nc ?_
  refine k_t rfl ?_
  refine k_skip ?_
  refine c_norm ?_
  refine k_seq ?_
  refine k_b ?_
  refine k_trF mixed ?_; have H' := H.drew; clear H; have H := H'; clear H'
  refine tqh 0 rfl rfl rfl (fun _ hS => r_mv (v := .slice _ _ _) rfl) trivial ?_
  refine tqh 1 rfl rfl rfl (fun _ hS => r_mv (v := .int _ _) rfl) trivial ?_
  refine tqh 2 rfl rfl rfl (fun _ hS => r_mv (v := .slice _ _ _) rfl) trivial ?_
  refine tqh 3 rfl rfl rfl (fun _ hS => r_mv (v := .int _ _) rfl) trivial ?_
  refine tqh 4 rfl rfl rfl (fun _ hS => r_add rfl rfl (wI (by omega))) trivial ?_
  refine tqh 5 rfl rfl rfl (fun _ hS => r_mv (v := .slice _ _ _) rfl) trivial ?_
  refine tqh 6 rfl rfl rfl (fun _ hS => r_mv (v := .int _ _) rfl) trivial ?_
  refine tqh 7 rfl rfl rfl (fun _ hS => r_add rfl rfl (wI (by omega))) trivial ?_
  refine tqh 8 rfl rfl rfl (fun _ hS => r_ix0 (i := (A.length + q + 1)) rfl rfl (by omega) (by omega) Try.underlying129 sz132) trivial ?_
  refine tqh 10 rfl rfl rfl (fun _ hS => r_mv (v := .slice _ _ _) rfl) trivial ?_
  refine tqh 11 rfl rfl rfl (fun _ hS => r_mv (v := .int _ _) rfl) trivial ?_
  refine tqh 12 rfl rfl rfl (fun _ hS => r_ix0 (i := (A.length + q)) rfl rfl (by omega) (by omega) Try.underlying129 sz132) trivial ?_
  refine t_up2 9 13 (by kernel_rfl) ?_ ?_
  ·refine up_mk rfl ?_
   refine s_run rfl rfl (r_lP H 0 rfl rfl hy2 ag132 sz132) ?_
   refine k_nil ?_
   refine t_on trivial ?_
   refine t_up1 13 (by kernel_rfl) ?_
   refine up_mk rfl ?_
   refine s_run rfl rfl (r_lP H 0 rfl rfl hx2 ag132 sz132) ?_
   refine k_nil ?_
   refine t_on trivial ?_
   refine tqh 14 rfl rfl rfl (fun _ hS => r_ix0 (i := (A.length + q)) rfl rfl (by omega) (by omega) Try.underlying129 sz132) trivial ?_
   refine t_up1 15 (by kernel_rfl) ?_
   refine up_mk rfl ?_
   refine s_sP (q := y) H 0 rfl rfl rfl rfl (by omega) sz132 ?_
   clear H; intro _ H; simp only [jA, jB, jC, jD, jE, jF, jG, jH, jI, jJ, jK, Nat.reduceAdd] at H
   refine k_nil ?_
   refine t_on trivial ?_
   refine tqh 16 rfl rfl rfl (fun _ hS => r_ix0 (i := (A.length + q + 1)) rfl rfl (by omega) (by omega) Try.underlying129 sz132) trivial ?_
   refine t_up1 17 (by kernel_rfl) ?_
   refine up_mk rfl ?_
   refine s_sP (q := x) H 0 rfl rfl rfl rfl (by rw [List.length_set]; omega) sz132 ?_
   clear H; intro _ H; simp only [jA, jB, jC, jD, jE, jF, jG, jH, jI, jJ, jK, Nat.reduceAdd] at H
   refine k_nil ?_
   refine t_on trivial ?_
   refine t_done (by kernel_rfl) ?_
   refine b_norm ?_
   refine c_norm ?_
   refine k_rg ?_
   refine s_run rfl rfl (rmi rfl) ?_
   refine s_run rfl rfl (r_add rfl rfl (wI (by omega))) ?_
   refine s_run rfl rfl (rai rfl) ?_
   refine k_nil ?_
   refine c_round ?_
   rw [hst] at H; exact ⟨_, _, by omega, rfl, q + 1, by omega, rfl, rfl, rfl, rfl, H⟩
  ·refine up_mk rfl ?_
   refine s_run rfl rfl (r_lP H 0 rfl rfl hx2 ag132 sz132) ?_
   refine k_nil ?_
   refine t_on trivial ?_
   refine t_up1 9 (by kernel_rfl) ?_
   refine up_mk rfl ?_
   refine s_run rfl rfl (r_lP H 0 rfl rfl hy2 ag132 sz132) ?_
   refine k_nil ?_
   refine t_on trivial ?_
   refine tqh 14 rfl rfl rfl (fun _ hS => r_ix0 (i := (A.length + q)) rfl rfl (by omega) (by omega) Try.underlying129 sz132) trivial ?_
   refine t_up1 15 (by kernel_rfl) ?_
   refine up_mk rfl ?_
   refine s_sP (q := y) H 0 rfl rfl rfl rfl (by omega) sz132 ?_
   clear H; intro _ H; simp only [jA, jB, jC, jD, jE, jF, jG, jH, jI, jJ, jK, Nat.reduceAdd] at H
   refine k_nil ?_
   refine t_on trivial ?_
   refine tqh 16 rfl rfl rfl (fun _ hS => r_ix0 (i := (A.length + q + 1)) rfl rfl (by omega) (by omega) Try.underlying129 sz132) trivial ?_
   refine t_up1 17 (by kernel_rfl) ?_
   refine up_mk rfl ?_
   refine s_sP (q := x) H 0 rfl rfl rfl rfl (by rw [List.length_set]; omega) sz132 ?_
   clear H; intro _ H; simp only [jA, jB, jC, jD, jE, jF, jG, jH, jI, jJ, jK, Nat.reduceAdd] at H
   refine k_nil ?_
   refine t_on trivial ?_
   refine t_done (by kernel_rfl) ?_
   refine b_norm ?_
   refine c_norm ?_
   refine k_rg ?_
   refine s_run rfl rfl (rmi rfl) ?_
   refine s_run rfl rfl (r_add rfl rfl (wI (by omega))) ?_
   refine s_run rfl rfl (rai rfl) ?_
   refine k_nil ?_
   refine c_round ?_
   rw [hst] at H; exact ⟨_, _, by omega, rfl, q + 1, by omega, rfl, rfl, rfl, rfl, H⟩
 ·obtain rfl : q = i := by omega
  have e3 : A ++ Y1.take q ++ [x] ++ (Y1.drop q ++ (Y2 ++ Z)) = A ++ (Y1 ++ [x] ++ Y2) ++ Z := by rw [List.take_of_length_le (by omega), List.drop_of_length_le (by omega)]; simp
  rw [e3] at H
  refine k_seq ?_
  refine k_sg ?_
  refine s_run rfl rfl (rmi rfl) ?_
  refine s_run rfl rfl (rmi rfl) ?_
  refine s_run rfl rfl (r_sub rfl rfl (wI (by omega))) ?_
  refine s_run rfl rfl (r_lssF rfl rfl (by omega)) ?_
  refine k_nc ?_
  refine k_f rfl ?_
  refine k_exit ?_
  refine c_exit ?_
  refine c_exit ?_
  refine b_hit ?_
  refine c_norm ?_
  refine k_ret ?_
  refine c_ret ?_
  refine fin0r  rfl ?_
  exact ⟨rfl, H⟩
end Go.Proofs.Ytlakbclnilakbaa
end

section
namespace Go.Proofs.Ytlakbclnilakbaa
open Go.RowKit
set_option maxRecDepth 100000
set_option maxHeartbeats 4000000
open St (Q)
theorem zSymR (p c n : Nat) (rs : List Value) (A X : List Q) (y : Q) (Z : List Q) (w : World) (hE : Ents [prow p (A ++ X ++ [y] ++ Z) rs 132] w) (hl : (A ++ X ++ [y] ++ Z).length = n) (hn : n ≤ 1000000) (hX : X.Pairwise St.le) (hX1 : 2 ≤ X.length) (hc : St.Cross X [y]) (hyb : 0 ≤ y.2 ∧ y.2 ≤ 1099511627776) (hb : Bd X) (m b : Nat) (hm : m = A.length + X.length) (hbb : b = A.length + X.length + 1) :
  Calls Try.prog 149 [.slice (some ⟨p, 0, none⟩) n c, .int .i64 A.length, .int .i64 m, .int .i64 b, cmpF].toArray w fun e w' => e = .returned (.tuple #[]) ∧ Heap w (ids [prow p (A ++ X ++ [y] ++ Z) rs 132]) [prow p (A ++ St.ps (X ++ [y]) ++ Z) rs 132] w' := by
 have H := Heap.start hE
 generalize ids [prow p (A ++ X ++ [y] ++ Z) rs 132] = I at *
 have hln := hl
 simp only [List.length_append, List.length_cons, List.length_nil] at hln
 have hAX : (A ++ X).length = m := by rw [List.length_append, hm]
 have hay : (A ++ X ++ [y] ++ Z)[m]? = some y := by rw [← hAX]; exact mid_at
 refine k_in (N := 220) Try.func149 rfl rfl rfl ?_
 refine k_seq ?_
 refine k_sg ?_
 refine s_run rfl rfl (rmi rfl) ?_
 refine s_run rfl rfl (rmi rfl) ?_
 refine s_run rfl rfl (r_sub rfl rfl (wI (by omega))) ?_
 refine s_run rfl rfl (r_eqlF rfl rfl (by omega)) ?_
 refine k_nc ?_
 refine k_f rfl ?_
 refine k_skip ?_
 refine c_norm ?_
 refine k_seq ?_
 refine k_sg ?_
 refine s_run rfl rfl (rmi rfl) ?_
 refine s_run rfl rfl (rmi rfl) ?_
 refine s_run rfl rfl (r_sub rfl rfl (wI (by omega))) ?_
 refine s_run rfl rfl (r_eqlT rfl rfl (by omega)) ?_
 refine k_nc ?_
 refine k_t rfl ?_
 refine k_sg ?_
 refine s_run rfl rfl (rmi rfl) ?_
 refine s_run rfl rfl (rai rfl) ?_
 refine k_nc ?_
 refine k_sg ?_
 refine s_run rfl rfl (rmi rfl) ?_
 refine s_run rfl rfl (rai rfl) ?_
 refine k_nc ?_
 refine k_seq ?_
 refine k_b ?_
 refine k_loop (fun z f W => ∃ (i j : Nat), i ≤ j ∧ j ≤ X.length ∧ z = j - i ∧ (∀ k x, k < i → X[k]? = some x → ¬ y.2 > x.2) ∧ (∀ k x, j ≤ k → X[k]? = some x → y.2 > x.2) ∧ f 0 = .slice (some ⟨p, 0, none⟩) n c ∧ f 2 = .int .i64 m ∧ f 4 = cmpF ∧ f 14 = .int .i64 (A.length + i : Nat) ∧ f 15 = .int .i64 (A.length + j : Nat) ∧ Heap w I [prow p (A ++ X ++ [y] ++ Z) rs 132] W) X.length ⟨0, X.length, by omega, by omega, rfl, (fun k y h => by omega), (fun k y h1 h2 => by rw [List.getElem?_eq_none h1] at h2; cases h2), rfl, rfl, rfl, rfl, by rw [hm]; rfl, H⟩ ?_
 clear H
 rintro z f W ⟨i, j, hij, hjl, rfl, hlo, hhi, f0, f2, f4, f14, f15, H⟩
 obtain ⟨f, rfl⟩ := live5 f0 f2 f4 f14 f15
 clear f0 f2 f4 f14 f15
 by_cases hlt : i < j
 ·obtain ⟨q, hq⟩ : ∃ q, (i + j) / 2 = q := ⟨_, rfl⟩
  obtain ⟨x, hx⟩ : ∃ x, X[q]? = some x := ⟨_, List.getElem?_eq_getElem (by omega)⟩
  have hxb := hb x (List.mem_of_getElem? hx)
  have hax : (A ++ X ++ [y] ++ Z)[A.length + q]? = some x := by rw [List.append_assoc (A ++ X)]; exact at_L hx
  have hC := fun (W : World) => zCmp y x W hyb hxb
  by_cases hgt : y.2 > x.2
  ·refine k_seq ?_
   refine k_sg ?_
   refine s_run rfl rfl (rmi rfl) ?_
   refine s_run rfl rfl (rmi rfl) ?_
   refine s_run rfl rfl (r_lssT rfl rfl (by omega)) ?_
   refine k_nc ?_
   refine k_t rfl ?_
   refine k_skip ?_
   refine c_norm ?_
   refine k_b ?_
   refine k_sg ?_
   refine s_run rfl rfl (rmi rfl) ?_
   refine s_run rfl rfl (rmi rfl) ?_
   refine s_run rfl rfl (r_add rfl rfl (wI (by omega))) ?_
   refine s_run rfl rfl (r_cv rfl (by kernel_rfl) Try.underlying144 (wU (by omega))) ?_
   refine s_run rfl rfl (r_shrS (s := 1) (c := (A.length + q : Nat)) rfl rfl rfl (by decide) (half (by omega) (by omega))) ?_
   refine s_run rfl rfl (r_cv rfl (by kernel_rfl) Try.underlying3 (wI (by omega))) ?_
   refine s_run rfl rfl (rai rfl) ?_
   refine k_nc ?_
   refine k_seq ?_
   refine k_trF mixed ?_; have H' := H.drew; clear H; have H := H'; clear H'
   refine tqh 0 rfl rfl rfl (fun _ hS => r_mv (v := .func _ _ _) rfl) trivial ?_
   refine tqh 1 rfl rfl rfl (fun _ hS => r_mv (v := .slice _ _ _) rfl) trivial ?_
   refine tqh 2 rfl rfl rfl (fun _ hS => r_mv (v := .int _ _) rfl) trivial ?_
   refine tqh 3 rfl rfl rfl (fun _ hS => r_ix0 (i := m) rfl rfl (by omega) (by omega) Try.underlying129 sz132) trivial ?_
   refine tqh 5 rfl rfl rfl (fun _ hS => r_mv (v := .slice _ _ _) rfl) trivial ?_
   refine tqh 6 rfl rfl rfl (fun _ hS => r_mv (v := .int _ _) rfl) trivial ?_
   refine tqh 7 rfl rfl rfl (fun _ hS => r_ix0 (i := (A.length + q)) rfl rfl (by omega) (by omega) Try.underlying129 sz132) trivial ?_
   refine t_up2 4 8 (by kernel_rfl) ?_ ?_
   ·refine up_mk rfl ?_
    refine s_run rfl rfl (r_lP H 0 rfl rfl hay ag132 sz132) ?_
    refine k_nil ?_
    refine t_on trivial ?_
    refine t_up1 8 (by kernel_rfl) ?_
    refine up_mk rfl ?_
    refine s_run rfl rfl (r_lP H 0 rfl rfl hax ag132 sz132) ?_
    refine k_nil ?_
    refine t_on trivial ?_
    refine t_up1 9 (by kernel_rfl) ?_
    refine up_mk rfl ?_
    refine s_callV rfl rfl rfl Try.func96 (by kernel_rfl) (by kernel_rfl) (hC _) ?_
    rintro e W1 ⟨rfl, H'⟩
    refine ⟨_, rfl, ?_⟩
    have H := H.same H'; clear H'
    refine k_nil ?_
    refine t_on trivial ?_
    refine tqh 10 rfl rfl rfl (fun _ hS => r_lssT rfl rfl (by omega)) trivial ?_
    refine tqh 11 rfl rfl rfl (fun _ hS => r_notT rfl) trivial ?_
    refine t_done (by kernel_rfl) ?_
    refine c_norm ?_
    refine k_f rfl ?_
    refine k_rg ?_
    refine s_run rfl rfl (rmi rfl) ?_
    refine s_run rfl rfl (rai rfl) ?_
    refine k_nil ?_
    refine b_norm ?_
    refine c_round ?_
    exact ⟨_, _, by omega, rfl, i, q, by omega, by omega, rfl, hlo, (fun k u h1 h2 => by have := St.getle hX hx h2 h1; omega), rfl, rfl, rfl, rfl, rfl, H⟩
   ·refine up_mk rfl ?_
    refine s_run rfl rfl (r_lP H 0 rfl rfl hax ag132 sz132) ?_
    refine k_nil ?_
    refine t_on trivial ?_
    refine t_up1 4 (by kernel_rfl) ?_
    refine up_mk rfl ?_
    refine s_run rfl rfl (r_lP H 0 rfl rfl hay ag132 sz132) ?_
    refine k_nil ?_
    refine t_on trivial ?_
    refine t_up1 9 (by kernel_rfl) ?_
    refine up_mk rfl ?_
    refine s_callV rfl rfl rfl Try.func96 (by kernel_rfl) (by kernel_rfl) (hC _) ?_
    rintro e W1 ⟨rfl, H'⟩
    refine ⟨_, rfl, ?_⟩
    have H := H.same H'; clear H'
    refine k_nil ?_
    refine t_on trivial ?_
    refine tqh 10 rfl rfl rfl (fun _ hS => r_lssT rfl rfl (by omega)) trivial ?_
    refine tqh 11 rfl rfl rfl (fun _ hS => r_notT rfl) trivial ?_
    refine t_done (by kernel_rfl) ?_
    refine c_norm ?_
    refine k_f rfl ?_
    refine k_rg ?_
    refine s_run rfl rfl (rmi rfl) ?_
    refine s_run rfl rfl (rai rfl) ?_
    refine k_nil ?_
    refine b_norm ?_
    refine c_round ?_
    exact ⟨_, _, by omega, rfl, i, q, by omega, by omega, rfl, hlo, (fun k u h1 h2 => by have := St.getle hX hx h2 h1; omega), rfl, rfl, rfl, rfl, rfl, H⟩
  ·refine k_seq ?_
   refine k_sg ?_
   refine s_run rfl rfl (rmi rfl) ?_
   refine s_run rfl rfl (rmi rfl) ?_
   refine s_run rfl rfl (r_lssT rfl rfl (by omega)) ?_
   refine k_nc ?_
   refine k_t rfl ?_
   refine k_skip ?_
   refine c_norm ?_
   refine k_b ?_
   refine k_sg ?_
   refine s_run rfl rfl (rmi rfl) ?_
   refine s_run rfl rfl (rmi rfl) ?_
   refine s_run rfl rfl (r_add rfl rfl (wI (by omega))) ?_
   refine s_run rfl rfl (r_cv rfl (by kernel_rfl) Try.underlying144 (wU (by omega))) ?_
   refine s_run rfl rfl (r_shrS (s := 1) (c := (A.length + q : Nat)) rfl rfl rfl (by decide) (half (by omega) (by omega))) ?_
   refine s_run rfl rfl (r_cv rfl (by kernel_rfl) Try.underlying3 (wI (by omega))) ?_
   refine s_run rfl rfl (rai rfl) ?_
   refine k_nc ?_
   refine k_seq ?_
   refine k_trF mixed ?_; have H' := H.drew; clear H; have H := H'; clear H'
   refine tqh 0 rfl rfl rfl (fun _ hS => r_mv (v := .func _ _ _) rfl) trivial ?_
   refine tqh 1 rfl rfl rfl (fun _ hS => r_mv (v := .slice _ _ _) rfl) trivial ?_
   refine tqh 2 rfl rfl rfl (fun _ hS => r_mv (v := .int _ _) rfl) trivial ?_
   refine tqh 3 rfl rfl rfl (fun _ hS => r_ix0 (i := m) rfl rfl (by omega) (by omega) Try.underlying129 sz132) trivial ?_
   refine tqh 5 rfl rfl rfl (fun _ hS => r_mv (v := .slice _ _ _) rfl) trivial ?_
   refine tqh 6 rfl rfl rfl (fun _ hS => r_mv (v := .int _ _) rfl) trivial ?_
   refine tqh 7 rfl rfl rfl (fun _ hS => r_ix0 (i := (A.length + q)) rfl rfl (by omega) (by omega) Try.underlying129 sz132) trivial ?_
   refine t_up2 4 8 (by kernel_rfl) ?_ ?_
   ·refine up_mk rfl ?_
    refine s_run rfl rfl (r_lP H 0 rfl rfl hay ag132 sz132) ?_
    refine k_nil ?_
    refine t_on trivial ?_
    refine t_up1 8 (by kernel_rfl) ?_
    refine up_mk rfl ?_
    refine s_run rfl rfl (r_lP H 0 rfl rfl hax ag132 sz132) ?_
    refine k_nil ?_
    refine t_on trivial ?_
    refine t_up1 9 (by kernel_rfl) ?_
    refine up_mk rfl ?_
    refine s_callV rfl rfl rfl Try.func96 (by kernel_rfl) (by kernel_rfl) (hC _) ?_
    rintro e W1 ⟨rfl, H'⟩
    refine ⟨_, rfl, ?_⟩
    have H := H.same H'; clear H'
    refine k_nil ?_
    refine t_on trivial ?_
    refine tqh 10 rfl rfl rfl (fun _ hS => r_lssF rfl rfl (by omega)) trivial ?_
    refine tqh 11 rfl rfl rfl (fun _ hS => r_notF rfl) trivial ?_
    refine t_done (by kernel_rfl) ?_
    refine c_norm ?_
    refine k_t rfl ?_
    refine k_rg ?_
    refine s_run rfl rfl (rmi rfl) ?_
    refine s_run rfl rfl (r_add rfl rfl (wI (by omega))) ?_
    refine s_run rfl rfl (rai rfl) ?_
    refine k_nil ?_
    refine b_norm ?_
    refine c_round ?_
    exact ⟨_, _, by omega, rfl, q + 1, j, by omega, by omega, rfl, (fun k u h1 h2 => by have := St.getle hX h2 hx (by omega); omega), hhi, rfl, rfl, rfl, rfl, rfl, H⟩
   ·refine up_mk rfl ?_
    refine s_run rfl rfl (r_lP H 0 rfl rfl hax ag132 sz132) ?_
    refine k_nil ?_
    refine t_on trivial ?_
    refine t_up1 4 (by kernel_rfl) ?_
    refine up_mk rfl ?_
    refine s_run rfl rfl (r_lP H 0 rfl rfl hay ag132 sz132) ?_
    refine k_nil ?_
    refine t_on trivial ?_
    refine t_up1 9 (by kernel_rfl) ?_
    refine up_mk rfl ?_
    refine s_callV rfl rfl rfl Try.func96 (by kernel_rfl) (by kernel_rfl) (hC _) ?_
    rintro e W1 ⟨rfl, H'⟩
    refine ⟨_, rfl, ?_⟩
    have H := H.same H'; clear H'
    refine k_nil ?_
    refine t_on trivial ?_
    refine tqh 10 rfl rfl rfl (fun _ hS => r_lssF rfl rfl (by omega)) trivial ?_
    refine tqh 11 rfl rfl rfl (fun _ hS => r_notF rfl) trivial ?_
    refine t_done (by kernel_rfl) ?_
    refine c_norm ?_
    refine k_t rfl ?_
    refine k_rg ?_
    refine s_run rfl rfl (rmi rfl) ?_
    refine s_run rfl rfl (r_add rfl rfl (wI (by omega))) ?_
    refine s_run rfl rfl (rai rfl) ?_
    refine k_nil ?_
    refine b_norm ?_
    refine c_round ?_
    exact ⟨_, _, by omega, rfl, q + 1, j, by omega, by omega, rfl, (fun k u h1 h2 => by have := St.getle hX h2 hx (by omega); omega), hhi, rfl, rfl, rfl, rfl, rfl, H⟩
 obtain rfl : i = j := by omega
 have hXe : X = X.take i ++ X.drop i := (List.take_append_drop i X).symm
 have h1 : ∀ x ∈ X.take i, ¬ y.2 > x.2 := fun x hx => by
  obtain ⟨k, hk, rfl⟩ := List.mem_iff_getElem.1 hx
  rw [List.length_take] at hk
  exact hlo k _ (by omega) (by rw [List.getElem_take]; exact List.getElem?_eq_getElem (by omega))
 have h2 : ∀ x ∈ X.drop i, y.2 > x.2 := fun x hx => by
  obtain ⟨k, hk, rfl⟩ := List.mem_iff_getElem.1 hx
  rw [List.length_drop] at hk
  exact hhi (i + k) _ (by omega) (by rw [List.getElem_drop]; exact List.getElem?_eq_getElem (by omega))
 have hres := St.ins_right (y := y) (X1 := X.take i) (X2 := X.drop i) (by rw [← hXe]; exact hX) (by rw [← hXe]; exact hc) h1 h2
 rw [← hXe] at hres
 rw [← hres]
 have e1 : A ++ X ++ [y] ++ Z = A ++ X.take X.length ++ [y] ++ (X.drop X.length ++ Z) := by rw [List.take_length, List.drop_length]; simp
 rw [e1] at H
 refine k_seq ?_
 refine k_sg ?_
 refine s_run rfl rfl (rmi rfl) ?_
 refine s_run rfl rfl (rmi rfl) ?_
 refine s_run rfl rfl (r_lssF rfl rfl (by omega)) ?_
 refine k_nc ?_
 refine k_f rfl ?_
 refine k_exit ?_
 refine c_exit ?_
 refine c_exit ?_
 refine b_hit ?_
 refine c_norm ?_
 refine k_seq ?_
 refine k_sg ?_
 refine s_run rfl rfl (rmi rfl) ?_
 refine s_run rfl rfl (rai rfl) ?_
 refine k_nc ?_
 refine k_b ?_
 refine k_loop (fun z f W => ∃ (q : Nat), i ≤ q ∧ q ≤ X.length ∧ z = q - i ∧ f 0 = .slice (some ⟨p, 0, none⟩) n c ∧ f 14 = .int .i64 (A.length + i : Nat) ∧ f 17 = .int .i64 (A.length + q : Nat) ∧ Heap w I [prow p (A ++ X.take q ++ [y] ++ (X.drop q ++ Z)) rs 132] W) (X.length - i) ⟨X.length, by omega, by omega, rfl, rfl, rfl, by rw [hm]; rfl, H⟩ ?_
 clear H
 rintro z f W ⟨q, hqi, hq, rfl, f0, f14, f17, H⟩
 obtain ⟨f, rfl⟩ := live3 f0 f14 f17
 clear f0 f14 f17
 by_cases hlt2 : i < q
 ·obtain ⟨q, rfl⟩ : ∃ r, q = r + 1 := ⟨q - 1, by omega⟩
  obtain ⟨x, hx⟩ : ∃ x, X[q]? = some x := ⟨_, List.getElem?_eq_getElem (by omega)⟩
  have hpl : (A ++ X.take q).length = A.length + q := by rw [List.length_append, List.length_take]; omega
  have e2 : A ++ X.take (q + 1) ++ [y] ++ (X.drop (q + 1) ++ Z) = A ++ X.take q ++ [x] ++ [y] ++ (X.drop (q + 1) ++ Z) := by rw [take_snocQ hx]; simp
  have hx2 : (A ++ X.take (q + 1) ++ [y] ++ (X.drop (q + 1) ++ Z))[A.length + q]? = some x := by
   rw [e2, List.append_assoc (A ++ X.take q ++ [x]), ← hpl]; exact mid_at
  have hy2 : (A ++ X.take (q + 1) ++ [y] ++ (X.drop (q + 1) ++ Z))[A.length + q + 1]? = some y := by
   rw [e2, show A.length + q + 1 = (A ++ X.take q ++ [x]).length by rw [List.length_append, hpl]; rfl]; exact mid_at
  have hst : ((A ++ X.take (q + 1) ++ [y] ++ (X.drop (q + 1) ++ Z)).set (A.length + q + 1) x).set (A.length + q) y = A ++ X.take q ++ [y] ++ (X.drop q ++ Z) := by
   rw [e2, ← hpl, mid_swap, drop_consQ hx]; simp
  have hl2 := (List.getElem?_eq_some_iff.1 hy2).1
  have hll : A.length + q + 1 < n := by omega
  refine k_seq ?_
  refine k_sg ?_
  refine s_run rfl rfl (rmi rfl) ?_
  refine s_run rfl rfl (rmi rfl) ?_
  refine s_run rfl rfl (r_gtrT rfl rfl (by omega)) ?_
  refine k_nc ?_
  refine k_t rfl ?_
  refine k_skip ?_
  refine c_norm ?_
  refine k_seq ?_
  refine k_b ?_
  refine k_trF mixed ?_; have H' := H.drew; clear H; have H := H'; clear H'
  refine tqh 0 rfl rfl rfl (fun _ hS => r_mv (v := .slice _ _ _) rfl) trivial ?_
  refine tqh 1 rfl rfl rfl (fun _ hS => r_mv (v := .int _ _) rfl) trivial ?_
  refine tqh 2 rfl rfl rfl (fun _ hS => r_mv (v := .slice _ _ _) rfl) trivial ?_
  refine tqh 3 rfl rfl rfl (fun _ hS => r_mv (v := .int _ _) rfl) trivial ?_
  refine tqh 4 rfl rfl rfl (fun _ hS => r_sub rfl rfl (wI (by omega))) trivial ?_
  refine tqh 5 rfl rfl rfl (fun _ hS => r_mv (v := .slice _ _ _) rfl) trivial ?_
  refine tqh 6 rfl rfl rfl (fun _ hS => r_mv (v := .int _ _) rfl) trivial ?_
  refine tqh 7 rfl rfl rfl (fun _ hS => r_sub rfl rfl (wI (by omega))) trivial ?_
  refine tqh 8 rfl rfl rfl (fun _ hS => r_ix0 (i := (A.length + q)) rfl rfl (by omega) (by omega) Try.underlying129 sz132) trivial ?_
  refine tqh 10 rfl rfl rfl (fun _ hS => r_mv (v := .slice _ _ _) rfl) trivial ?_
  refine tqh 11 rfl rfl rfl (fun _ hS => r_mv (v := .int _ _) rfl) trivial ?_
  refine tqh 12 rfl rfl rfl (fun _ hS => r_ix0 (i := (A.length + q + 1)) rfl rfl (by omega) (by omega) Try.underlying129 sz132) trivial ?_
  refine t_up2 9 13 (by kernel_rfl) ?_ ?_
  ·refine up_mk rfl ?_
   refine s_run rfl rfl (r_lP H 0 rfl rfl hx2 ag132 sz132) ?_
   refine k_nil ?_
   refine t_on trivial ?_
   refine t_up1 13 (by kernel_rfl) ?_
   refine up_mk rfl ?_
   refine s_run rfl rfl (r_lP H 0 rfl rfl hy2 ag132 sz132) ?_
   refine k_nil ?_
   refine t_on trivial ?_
   refine tqh 14 rfl rfl rfl (fun _ hS => r_ix0 (i := (A.length + q + 1)) rfl rfl (by omega) (by omega) Try.underlying129 sz132) trivial ?_
   refine t_up1 15 (by kernel_rfl) ?_
   refine up_mk rfl ?_
   refine s_sP (q := x) H 0 rfl rfl rfl rfl (by omega) sz132 ?_
   clear H; intro _ H; simp only [jA, jB, jC, jD, jE, jF, jG, jH, jI, jJ, jK, Nat.reduceAdd] at H
   refine k_nil ?_
   refine t_on trivial ?_
   refine tqh 16 rfl rfl rfl (fun _ hS => r_ix0 (i := (A.length + q)) rfl rfl (by omega) (by omega) Try.underlying129 sz132) trivial ?_
   refine t_up1 17 (by kernel_rfl) ?_
   refine up_mk rfl ?_
   refine s_sP (q := y) H 0 rfl rfl rfl rfl (by rw [List.length_set]; omega) sz132 ?_
   clear H; intro _ H; simp only [jA, jB, jC, jD, jE, jF, jG, jH, jI, jJ, jK, Nat.reduceAdd] at H
   refine k_nil ?_
   refine t_on trivial ?_
   refine t_done (by kernel_rfl) ?_
   refine b_norm ?_
   refine c_norm ?_
   refine k_rg ?_
   refine s_run rfl rfl (rmi rfl) ?_
   refine s_run rfl rfl (r_sub (c := (A.length + q : Nat)) rfl rfl (wIe (by omega) (by omega))) ?_
   refine s_run rfl rfl (rai rfl) ?_
   refine k_nil ?_
   refine c_round ?_
   rw [hst] at H; exact ⟨q - i, _, by omega, rfl, q, by omega, by omega, rfl, rfl, rfl, rfl, H⟩
  ·refine up_mk rfl ?_
   refine s_run rfl rfl (r_lP H 0 rfl rfl hy2 ag132 sz132) ?_
   refine k_nil ?_
   refine t_on trivial ?_
   refine t_up1 9 (by kernel_rfl) ?_
   refine up_mk rfl ?_
   refine s_run rfl rfl (r_lP H 0 rfl rfl hx2 ag132 sz132) ?_
   refine k_nil ?_
   refine t_on trivial ?_
   refine tqh 14 rfl rfl rfl (fun _ hS => r_ix0 (i := (A.length + q + 1)) rfl rfl (by omega) (by omega) Try.underlying129 sz132) trivial ?_
   refine t_up1 15 (by kernel_rfl) ?_
   refine up_mk rfl ?_
   refine s_sP (q := x) H 0 rfl rfl rfl rfl (by omega) sz132 ?_
   clear H; intro _ H; simp only [jA, jB, jC, jD, jE, jF, jG, jH, jI, jJ, jK, Nat.reduceAdd] at H
   refine k_nil ?_
   refine t_on trivial ?_
   refine tqh 16 rfl rfl rfl (fun _ hS => r_ix0 (i := (A.length + q)) rfl rfl (by omega) (by omega) Try.underlying129 sz132) trivial ?_
   refine t_up1 17 (by kernel_rfl) ?_
   refine up_mk rfl ?_
   refine s_sP (q := y) H 0 rfl rfl rfl rfl (by rw [List.length_set]; omega) sz132 ?_
   clear H; intro _ H; simp only [jA, jB, jC, jD, jE, jF, jG, jH, jI, jJ, jK, Nat.reduceAdd] at H
   refine k_nil ?_
   refine t_on trivial ?_
   refine t_done (by kernel_rfl) ?_
   refine b_norm ?_
   refine c_norm ?_
   refine k_rg ?_
   refine s_run rfl rfl (rmi rfl) ?_
   refine s_run rfl rfl (r_sub (c := (A.length + q : Nat)) rfl rfl (wIe (by omega) (by omega))) ?_
   refine s_run rfl rfl (rai rfl) ?_
   refine k_nil ?_
   refine c_round ?_
   rw [hst] at H; exact ⟨q - i, _, by omega, rfl, q, by omega, by omega, rfl, rfl, rfl, rfl, H⟩
 ·obtain rfl : q = i := by omega
  have e3 : A ++ X.take q ++ [y] ++ (X.drop q ++ Z) = A ++ (X.take q ++ [y] ++ X.drop q) ++ Z := by simp
  rw [e3] at H
  refine k_seq ?_
  refine k_sg ?_
  refine s_run rfl rfl (rmi rfl) ?_
  refine s_run rfl rfl (rmi rfl) ?_
  refine s_run rfl rfl (r_gtrF rfl rfl (by omega)) ?_
  refine k_nc ?_
  refine k_f rfl ?_
  refine k_exit ?_
  refine c_exit ?_
  refine c_exit ?_
  refine b_hit ?_
  refine c_norm ?_
  refine k_ret ?_
  refine c_ret ?_
  refine fin0r  rfl ?_
  exact ⟨rfl, H⟩
end Go.Proofs.Ytlakbclnilakbaa
end

section
namespace Go.Proofs.Ytlakbclnilakbaa
open Go.RowKit
set_option maxRecDepth 100000
set_option maxHeartbeats 8000000
open St (Q)
theorem live8S {f : Nat → Value} {k1 k2 k3 k4 k5 k6 k7 k8 : Nat} {v1 v2 v3 v4 v5 v6 v7 v8 : Value} (h1 : f k1 = v1) (h2 : f k2 = v2) (h3 : f k3 = v3) (h4 : f k4 = v4) (h5 : f k5 = v5) (h6 : f k6 = v6) (h7 : f k7 = v7) (h8 : f k8 = v8) : ∃ g, f = upd (upd (upd (upd (upd (upd (upd (upd g k1 v1) k2 v2) k3 v3) k4 v4) k5 v5) k6 v6) k7 v7) k8 v8 := ⟨f, by rw [upd_same h1, upd_same h2, upd_same h3, upd_same h4, upd_same h5, upd_same h6, upd_same h7, upd_same h8]⟩
theorem live9S {f : Nat → Value} {k1 k2 k3 k4 k5 k6 k7 k8 k9 : Nat} {v1 v2 v3 v4 v5 v6 v7 v8 v9 : Value} (h1 : f k1 = v1) (h2 : f k2 = v2) (h3 : f k3 = v3) (h4 : f k4 = v4) (h5 : f k5 = v5) (h6 : f k6 = v6) (h7 : f k7 = v7) (h8 : f k8 = v8) (h9 : f k9 = v9) : ∃ g, f = upd (upd (upd (upd (upd (upd (upd (upd (upd g k1 v1) k2 v2) k3 v3) k4 v4) k5 v5) k6 v6) k7 v7) k8 v8) k9 v9 := ⟨f, by rw [upd_same h1, upd_same h2, upd_same h3, upd_same h4, upd_same h5, upd_same h6, upd_same h7, upd_same h8, upd_same h9]⟩
theorem live10S {f : Nat → Value} {k1 k2 k3 k4 k5 k6 k7 k8 k9 k10 : Nat} {v1 v2 v3 v4 v5 v6 v7 v8 v9 v10 : Value} (h1 : f k1 = v1) (h2 : f k2 = v2) (h3 : f k3 = v3) (h4 : f k4 = v4) (h5 : f k5 = v5) (h6 : f k6 = v6) (h7 : f k7 = v7) (h8 : f k8 = v8) (h9 : f k9 = v9) (h10 : f k10 = v10) : ∃ g, f = upd (upd (upd (upd (upd (upd (upd (upd (upd (upd g k1 v1) k2 v2) k3 v3) k4 v4) k5 v5) k6 v6) k7 v7) k8 v8) k9 v9) k10 v10 := ⟨f, by rw [upd_same h1, upd_same h2, upd_same h3, upd_same h4, upd_same h5, upd_same h6, upd_same h7, upd_same h8, upd_same h9, upd_same h10]⟩
theorem sym_split {X Y : List Q} {i j : Nat} (hX : X.Pairwise St.le) (hY : Y.Pairwise St.le) (hc : St.Cross X Y) (hi : i ≤ X.length) (hj : j ≤ Y.length)
  (hL : ∀ x y, 0 < i → X[i - 1]? = some x → Y[j]? = some y → ¬ y.2 > x.2) (hR : ∀ x y, 0 < j → X[i]? = some x → Y[j - 1]? = some y → y.2 > x.2) :
  St.ps (X.take i ++ Y.take j) ++ St.ps (X.drop i ++ Y.drop j) = St.ps (X ++ Y) := by
 have h := St.merge2 (X1 := X.take i) (X2 := X.drop i) (Y1 := Y.take j) (Y2 := Y.drop j) (by rw [List.take_append_drop]; exact hX) (by rw [List.take_append_drop]; exact hY) ?_ ?_
 ·rw [List.take_append_drop, List.take_append_drop] at h; exact h
 ·intro x hx y hy
  obtain ⟨u, hu, rfl⟩ := List.mem_iff_getElem.1 hx
  obtain ⟨v, hv, rfl⟩ := List.mem_iff_getElem.1 hy
  rw [List.length_take] at hu
  rw [List.length_drop] at hv
  refine St.cross_le hc (List.mem_of_mem_take hx) (List.mem_of_mem_drop hy) ?_
  rw [List.getElem_take, List.getElem_drop]
  have g1 := St.getle hX (List.getElem?_eq_getElem (show u < X.length by omega)) (List.getElem?_eq_getElem (show i - 1 < X.length by omega)) (by omega)
  have g2 := St.getle hY (List.getElem?_eq_getElem (show j < Y.length by omega)) (List.getElem?_eq_getElem (show j + v < Y.length by omega)) (by omega)
  have g3 := hL _ _ (by omega) (List.getElem?_eq_getElem (show i - 1 < X.length by omega)) (List.getElem?_eq_getElem (show j < Y.length by omega))
  omega
 ·intro y hy x hx
  obtain ⟨v, hv, rfl⟩ := List.mem_iff_getElem.1 hy
  obtain ⟨u, hu, rfl⟩ := List.mem_iff_getElem.1 hx
  rw [List.length_take] at hv
  rw [List.length_drop] at hu
  rw [List.getElem_take, List.getElem_drop]
  have g1 := St.getle hY (List.getElem?_eq_getElem (show v < Y.length by omega)) (List.getElem?_eq_getElem (show j - 1 < Y.length by omega)) (by omega)
  have g2 := St.getle hX (List.getElem?_eq_getElem (show i < X.length by omega)) (List.getElem?_eq_getElem (show i + u < X.length by omega)) (by omega)
  have g3 := hR _ _ (by omega) (List.getElem?_eq_getElem (show i < X.length by omega)) (List.getElem?_eq_getElem (show j - 1 < Y.length by omega))
  exact .inl (by omega)
theorem zSym (p c n : Nat) (rs : List Value) (hn : n ≤ 1000000) : ∀ (N : Nat) (A X Y Z : List Q) (m b : Nat) (w : World), X.length + Y.length ≤ N → Ents [prow p (A ++ X ++ Y ++ Z) rs 132] w → (A ++ X ++ Y ++ Z).length = n → 0 < X.length → 0 < Y.length → X.Pairwise St.le → Y.Pairwise St.le → St.Cross X Y → Bd X → Bd Y → m = A.length + X.length → b = A.length + X.length + Y.length →
  Calls Try.prog 149 [.slice (some ⟨p, 0, none⟩) n c, .int .i64 A.length, .int .i64 m, .int .i64 b, cmpF].toArray w fun e w' => e = .returned (.tuple #[]) ∧ Heap w (ids [prow p (A ++ X ++ Y ++ Z) rs 132]) [prow p (A ++ St.ps (X ++ Y) ++ Z) rs 132] w'
 | 0, A, X, Y, Z, m, b, w, hN, hE, hl, hx0, hy0, hX, hY, hc, hbX, hbY, hm, hbb => by omega
 | N + 1, A, X, Y, Z, m, b, w, hN, hE, hl, hx0, hy0, hX, hY, hc, hbX, hbY, hm, hbb => by
  have IH := zSym p c n rs hn N
  by_cases hx1 : X.length = 1
  ·obtain ⟨x, rfl⟩ := List.length_eq_one_iff.1 hx1
   exact zSymL p c n rs A x Y Z w hE hl hn hY hc (hbX x (by simp)) hbY m b (by rw [hm]; rfl) (by rw [hbb]; rfl)
  by_cases hy1 : Y.length = 1
  ·obtain ⟨y, rfl⟩ := List.length_eq_one_iff.1 hy1
   exact zSymR p c n rs A X y Z w hE hl hn hX (by omega) hc (hbY y (by simp)) hbX m b hm (by rw [hbb]; rfl)
  have H := Heap.start hE
  generalize ids [prow p (A ++ X ++ Y ++ Z) rs 132] = I at *
  have hln := hl
  simp only [List.length_append] at hln
  obtain ⟨a, ha⟩ : ∃ a, A.length = a := ⟨_, rfl⟩
  rw [ha] at hm hbb hln ⊢
  obtain ⟨mid, hmid⟩ : ∃ mid, (a + b) / 2 = mid := ⟨_, rfl⟩
  obtain ⟨nn, hnn⟩ : ∃ nn, mid + m = nn := ⟨_, rfl⟩
  obtain ⟨s0, hs0⟩ : ∃ s0, (if m > mid then nn - b else a) = s0 := ⟨_, rfl⟩
  obtain ⟨r0, hr0⟩ : ∃ r0, (if m > mid then mid else m) = r0 := ⟨_, rfl⟩
  have hsr : a ≤ s0 ∧ s0 ≤ r0 ∧ r0 ≤ m ∧ nn ≤ b + s0 ∧ m + r0 ≤ nn ∧ (s0 = a ∨ s0 + b = nn) ∧ (r0 = m ∨ r0 = mid) := by
   rw [← hs0, ← hr0]; split <;> omega
  have hax : ∀ {k x}, X[k]? = some x → (A ++ X ++ Y ++ Z)[a + k]? = some x := fun {k x} h => by rw [List.append_assoc (A ++ X), ← ha]; exact at_L h
  have hay : ∀ {k y}, Y[k]? = some y → (A ++ X ++ Y ++ Z)[m + k]? = some y := fun {k y} h => by
   have := at_L (P := A ++ X) (R := Z) h
   rwa [List.length_append, ha, ← hm] at this
  refine k_in (N := 220) Try.func149 rfl rfl rfl ?_
  refine k_seq ?_
  refine k_sg ?_
  refine s_run rfl rfl (rmi rfl) ?_
  refine s_run rfl rfl (rmi rfl) ?_
  refine s_run rfl rfl (r_sub rfl rfl (wI (by omega))) ?_
  refine s_run rfl rfl (r_eqlF rfl rfl (by omega)) ?_
  refine k_nc ?_
  refine k_f rfl ?_
  refine k_skip ?_
  refine c_norm ?_
  refine k_seq ?_
  refine k_sg ?_
  refine s_run rfl rfl (rmi rfl) ?_
  refine s_run rfl rfl (rmi rfl) ?_
  refine s_run rfl rfl (r_sub rfl rfl (wI (by omega))) ?_
  refine s_run rfl rfl (r_eqlF rfl rfl (by omega)) ?_
  refine k_nc ?_
  refine k_f rfl ?_
  refine k_skip ?_
  refine c_norm ?_
  refine k_sg ?_
  refine s_run rfl rfl (rmi rfl) ?_
  refine s_run rfl rfl (rmi rfl) ?_
  refine s_run rfl rfl (r_add rfl rfl (wI (by omega))) ?_
  refine s_run rfl rfl (r_cv rfl (by kernel_rfl) Try.underlying144 (wU (by omega))) ?_
  refine s_run rfl rfl (r_shrS (s := 1) (c := (mid : Int)) rfl rfl rfl (by decide) (half (by omega) (by omega))) ?_
  refine s_run rfl rfl (r_cv rfl (by kernel_rfl) Try.underlying3 (wI (by omega))) ?_
  refine s_run rfl rfl (rai rfl) ?_
  refine k_nc ?_
  refine k_sg ?_
  refine s_run rfl rfl (rmi rfl) ?_
  refine s_run rfl rfl (rmi rfl) ?_
  refine s_run rfl rfl (r_add (c := (nn : Int)) rfl rfl (wIe (by omega) (by omega))) ?_
  refine s_run rfl rfl (rai rfl) ?_
  refine k_nc ?_
  refine k_sg ?_
  refine s_run rfl rfl (rai rfl) ?_
  refine s_run rfl rfl (rai rfl) ?_
  refine k_nc ?_
  refine k_seq ?_
  refine k_seq ?_
  refine k_cut (fun f W => f 0 = .slice (some ⟨p, 0, none⟩) n c ∧ f 1 = .int .i64 a ∧ f 2 = .int .i64 m ∧ f 3 = .int .i64 b ∧ f 4 = cmpF ∧ f 18 = .int .i64 mid ∧ f 19 = .int .i64 nn ∧ f 140 = .bool (decide (m > mid)) ∧ Heap w I [prow p (A ++ X ++ Y ++ Z) rs 132] W) ?_ ?_
  ·by_cases hc1 : m > mid
   ·rw [decide_eq_true hc1]
    refine k_rg ?_
    refine s_run rfl rfl (rmi rfl) ?_
    refine s_run rfl rfl (rmi rfl) ?_
    refine s_run rfl rfl (r_gtrT rfl rfl (by omega)) ?_
    refine k_nil ?_
    refine k_met ?_
    exact ⟨rfl, rfl, rfl, rfl, rfl, rfl, rfl, rfl, H⟩
   ·rw [decide_eq_false hc1]
    refine k_rg ?_
    refine s_run rfl rfl (rmi rfl) ?_
    refine s_run rfl rfl (rmi rfl) ?_
    refine s_run rfl rfl (r_gtrF rfl rfl (by omega)) ?_
    refine k_nil ?_
    refine k_met ?_
    exact ⟨rfl, rfl, rfl, rfl, rfl, rfl, rfl, rfl, H⟩
  clear H
  rintro f W ⟨f0, f1, f2, f3, f4, f18, f19, f140, H⟩
  obtain ⟨f, rfl⟩ := live8S f0 f1 f2 f3 f4 f18 f19 f140
  clear f0 f1 f2 f3 f4 f18 f19 f140
  refine c_norm ?_
  refine k_cut (fun f W => f 0 = .slice (some ⟨p, 0, none⟩) n c ∧ f 1 = .int .i64 a ∧ f 2 = .int .i64 m ∧ f 3 = .int .i64 b ∧ f 4 = cmpF ∧ f 18 = .int .i64 mid ∧ f 19 = .int .i64 nn ∧ f 20 = .int .i64 s0 ∧ f 21 = .int .i64 r0 ∧ Heap w I [prow p (A ++ X ++ Y ++ Z) rs 132] W) ?_ ?_
  ·by_cases hc1 : m > mid
   ·rw [if_pos hc1] at hs0 hr0
    rw [decide_eq_true hc1]
    refine k_t rfl ?_
    refine k_sg ?_
    refine s_run rfl rfl (rmi rfl) ?_
    refine s_run rfl rfl (rmi rfl) ?_
    refine s_run rfl rfl (r_sub (c := (s0 : Int)) rfl rfl (wIe (by omega) (by omega))) ?_
    refine s_run rfl rfl (rai rfl) ?_
    refine k_nc ?_
    refine k_rg ?_
    refine s_run rfl rfl (rmi rfl) ?_
    refine s_run rfl rfl (rai rfl) ?_
    refine k_nil ?_
    refine k_met ?_
    rw [hr0]
    exact ⟨rfl, rfl, rfl, rfl, rfl, rfl, rfl, rfl, rfl, H⟩
   ·rw [if_neg hc1] at hs0 hr0
    rw [decide_eq_false hc1]
    refine k_f rfl ?_
    refine k_sg ?_
    refine s_run rfl rfl (rmi rfl) ?_
    refine s_run rfl rfl (rai rfl) ?_
    refine k_nc ?_
    refine k_rg ?_
    refine s_run rfl rfl (rmi rfl) ?_
    refine s_run rfl rfl (rai rfl) ?_
    refine k_nil ?_
    refine k_met ?_
    rw [hr0, hs0]
    exact ⟨rfl, rfl, rfl, rfl, rfl, rfl, rfl, rfl, rfl, H⟩
  clear H hs0 hr0
  rintro f W ⟨f0, f1, f2, f3, f4, f18, f19, f20, f21, H⟩
  obtain ⟨f, rfl⟩ := live9S f0 f1 f2 f3 f4 f18 f19 f20 f21
  clear f0 f1 f2 f3 f4 f18 f19 f20 f21
  obtain ⟨pp, hpp⟩ : ∃ pp, nn = pp + 1 := ⟨nn - 1, by omega⟩
  refine c_norm ?_
  refine k_sg ?_
  refine s_run rfl rfl (rmi rfl) ?_
  refine s_run rfl rfl (r_sub (c := (pp : Int)) rfl rfl (wIe (by omega) (by omega))) ?_
  refine s_run rfl rfl (rai rfl) ?_
  refine k_nc ?_
  refine k_seq ?_
  refine k_b ?_
  refine k_loop (fun z f W => ∃ (s r : Nat), s0 ≤ s ∧ s ≤ r ∧ r ≤ r0 ∧ z = r - s ∧ (∀ c x y, s0 ≤ c → c < s → X[c - a]? = some x → Y[pp - c - m]? = some y → ¬ y.2 > x.2) ∧ (∀ c x y, r ≤ c → c < r0 → X[c - a]? = some x → Y[pp - c - m]? = some y → y.2 > x.2) ∧ f 0 = .slice (some ⟨p, 0, none⟩) n c ∧ f 1 = .int .i64 a ∧ f 2 = .int .i64 m ∧ f 3 = .int .i64 b ∧ f 4 = cmpF ∧ f 18 = .int .i64 mid ∧ f 19 = .int .i64 nn ∧ f 20 = .int .i64 s ∧ f 21 = .int .i64 r ∧ f 22 = .int .i64 pp ∧ Heap w I [prow p (A ++ X ++ Y ++ Z) rs 132] W) (r0 - s0) ⟨s0, r0, by omega, by omega, by omega, rfl, (fun c x y h1 h2 => by omega), (fun c x y h1 h2 => by omega), rfl, rfl, rfl, rfl, rfl, rfl, rfl, rfl, rfl, rfl, H⟩ ?_
  clear H
  rintro z f W ⟨s, r, hs0s, hsr2, hrr, rfl, hlo, hhi, f0, f1, f2, f3, f4, f18, f19, f20, f21, f22, H⟩
  obtain ⟨f, rfl⟩ := live10S f0 f1 f2 f3 f4 f18 f19 f20 f21 f22
  clear f0 f1 f2 f3 f4 f18 f19 f20 f21 f22
  by_cases hlt : s < r
  ·obtain ⟨q, hq⟩ : ∃ q, (s + r) / 2 = q := ⟨_, rfl⟩
   obtain ⟨x, hx⟩ : ∃ x, X[q - a]? = some x := ⟨_, List.getElem?_eq_getElem (by omega)⟩
   obtain ⟨y, hy⟩ : ∃ y, Y[pp - q - m]? = some y := ⟨_, List.getElem?_eq_getElem (by omega)⟩
   have hxb := hbX x (List.mem_of_getElem? hx)
   have hyb := hbY y (List.mem_of_getElem? hy)
   have hC := fun (W : World) => zCmp y x W hyb hxb
   have cx := hax hx
   have cy := hay hy
   rw [show a + (q - a) = q by omega] at cx
   rw [show m + (pp - q - m) = pp - q by omega] at cy
   by_cases hgt : y.2 > x.2
   ·refine k_seq ?_
    refine k_sg ?_
    refine s_run rfl rfl (rmi rfl) ?_
    refine s_run rfl rfl (rmi rfl) ?_
    refine s_run rfl rfl (r_lssT rfl rfl (by omega)) ?_
    refine k_nc ?_
    refine k_t rfl ?_
    refine k_skip ?_
    refine c_norm ?_
    refine k_b ?_
    refine k_sg ?_
    refine s_run rfl rfl (rmi rfl) ?_
    refine s_run rfl rfl (rmi rfl) ?_
    refine s_run rfl rfl (r_add rfl rfl (wI (by omega))) ?_
    refine s_run rfl rfl (r_cv rfl (by kernel_rfl) Try.underlying144 (wU (by omega))) ?_
    refine s_run rfl rfl (r_shrS (s := 1) (c := (q : Int)) rfl rfl rfl (by decide) (half (by omega) (by omega))) ?_
    refine s_run rfl rfl (r_cv rfl (by kernel_rfl) Try.underlying3 (wI (by omega))) ?_
    refine s_run rfl rfl (rai rfl) ?_
    refine k_nc ?_
    refine k_seq ?_
    refine k_trF mixed ?_; have H' := H.drew; clear H; have H := H'; clear H'
    refine tqh 0 rfl rfl rfl (fun _ hS => r_mv (v := .func _ _ _) rfl) trivial ?_
    refine tqh 1 rfl rfl rfl (fun _ hS => r_mv (v := .slice _ _ _) rfl) trivial ?_
    refine tqh 2 rfl rfl rfl (fun _ hS => r_mv (v := .int _ _) rfl) trivial ?_
    refine tqh 3 rfl rfl rfl (fun _ hS => r_mv (v := .int _ _) rfl) trivial ?_
    refine tqh 4 rfl rfl rfl (fun _ hS => r_sub (c := (pp - q : Nat)) rfl rfl (wIe (by omega) (by omega))) trivial ?_
    refine tqh 5 rfl rfl rfl (fun _ hS => r_ix0 (i := (pp - q)) rfl rfl (by omega) (by omega) Try.underlying129 sz132) trivial ?_
    refine tqh 7 rfl rfl rfl (fun _ hS => r_mv (v := .slice _ _ _) rfl) trivial ?_
    refine tqh 8 rfl rfl rfl (fun _ hS => r_mv (v := .int _ _) rfl) trivial ?_
    refine tqh 9 rfl rfl rfl (fun _ hS => r_ix0 (i := q) rfl rfl (by omega) (by omega) Try.underlying129 sz132) trivial ?_
    refine t_up2 6 10 (by kernel_rfl) ?_ ?_
    ·refine up_mk rfl ?_
     refine s_run rfl rfl (r_lP H 0 rfl rfl cy ag132 sz132) ?_
     refine k_nil ?_
     refine t_on trivial ?_
     refine t_up1 10 (by kernel_rfl) ?_
     refine up_mk rfl ?_
     refine s_run rfl rfl (r_lP H 0 rfl rfl cx ag132 sz132) ?_
     refine k_nil ?_
     refine t_on trivial ?_
     refine t_up1 11 (by kernel_rfl) ?_
     refine up_mk rfl ?_
     refine s_callV rfl rfl rfl Try.func96 (by kernel_rfl) (by kernel_rfl) (hC _) ?_
     rintro e W1 ⟨rfl, H'⟩
     refine ⟨_, rfl, ?_⟩
     have H := H.same H'; clear H'
     refine k_nil ?_
     refine t_on trivial ?_
     refine tqh 12 rfl rfl rfl (fun _ hS => r_lssT rfl rfl (by omega)) trivial ?_
     refine tqh 13 rfl rfl rfl (fun _ hS => r_notT rfl) trivial ?_
     refine t_done (by kernel_rfl) ?_
     refine c_norm ?_
     refine k_f rfl ?_
     refine k_rg ?_
     refine s_run rfl rfl (rmi rfl) ?_
     refine s_run rfl rfl (rai rfl) ?_
     refine k_nil ?_
     refine b_norm ?_
     refine c_round ?_
     exact ⟨_, _, by omega, rfl, s, q, by omega, by omega, by omega, rfl, hlo, (fun k u v h1 h2 h3 h4 => by have g1 := St.getle hX hx h3 (by omega); have g2 := St.getle hY h4 hy (by omega); omega), rfl, rfl, rfl, rfl, rfl, rfl, rfl, rfl, rfl, rfl, H⟩
    ·refine up_mk rfl ?_
     refine s_run rfl rfl (r_lP H 0 rfl rfl cx ag132 sz132) ?_
     refine k_nil ?_
     refine t_on trivial ?_
     refine t_up1 6 (by kernel_rfl) ?_
     refine up_mk rfl ?_
     refine s_run rfl rfl (r_lP H 0 rfl rfl cy ag132 sz132) ?_
     refine k_nil ?_
     refine t_on trivial ?_
     refine t_up1 11 (by kernel_rfl) ?_
     refine up_mk rfl ?_
     refine s_callV rfl rfl rfl Try.func96 (by kernel_rfl) (by kernel_rfl) (hC _) ?_
     rintro e W1 ⟨rfl, H'⟩
     refine ⟨_, rfl, ?_⟩
     have H := H.same H'; clear H'
     refine k_nil ?_
     refine t_on trivial ?_
     refine tqh 12 rfl rfl rfl (fun _ hS => r_lssT rfl rfl (by omega)) trivial ?_
     refine tqh 13 rfl rfl rfl (fun _ hS => r_notT rfl) trivial ?_
     refine t_done (by kernel_rfl) ?_
     refine c_norm ?_
     refine k_f rfl ?_
     refine k_rg ?_
     refine s_run rfl rfl (rmi rfl) ?_
     refine s_run rfl rfl (rai rfl) ?_
     refine k_nil ?_
     refine b_norm ?_
     refine c_round ?_
     exact ⟨_, _, by omega, rfl, s, q, by omega, by omega, by omega, rfl, hlo, (fun k u v h1 h2 h3 h4 => by have g1 := St.getle hX hx h3 (by omega); have g2 := St.getle hY h4 hy (by omega); omega), rfl, rfl, rfl, rfl, rfl, rfl, rfl, rfl, rfl, rfl, H⟩
   ·refine k_seq ?_
    refine k_sg ?_
    refine s_run rfl rfl (rmi rfl) ?_
    refine s_run rfl rfl (rmi rfl) ?_
    refine s_run rfl rfl (r_lssT rfl rfl (by omega)) ?_
    refine k_nc ?_
    refine k_t rfl ?_
    refine k_skip ?_
    refine c_norm ?_
    refine k_b ?_
    refine k_sg ?_
    refine s_run rfl rfl (rmi rfl) ?_
    refine s_run rfl rfl (rmi rfl) ?_
    refine s_run rfl rfl (r_add rfl rfl (wI (by omega))) ?_
    refine s_run rfl rfl (r_cv rfl (by kernel_rfl) Try.underlying144 (wU (by omega))) ?_
    refine s_run rfl rfl (r_shrS (s := 1) (c := (q : Int)) rfl rfl rfl (by decide) (half (by omega) (by omega))) ?_
    refine s_run rfl rfl (r_cv rfl (by kernel_rfl) Try.underlying3 (wI (by omega))) ?_
    refine s_run rfl rfl (rai rfl) ?_
    refine k_nc ?_
    refine k_seq ?_
    refine k_trF mixed ?_; have H' := H.drew; clear H; have H := H'; clear H'
    refine tqh 0 rfl rfl rfl (fun _ hS => r_mv (v := .func _ _ _) rfl) trivial ?_
    refine tqh 1 rfl rfl rfl (fun _ hS => r_mv (v := .slice _ _ _) rfl) trivial ?_
    refine tqh 2 rfl rfl rfl (fun _ hS => r_mv (v := .int _ _) rfl) trivial ?_
    refine tqh 3 rfl rfl rfl (fun _ hS => r_mv (v := .int _ _) rfl) trivial ?_
    refine tqh 4 rfl rfl rfl (fun _ hS => r_sub (c := (pp - q : Nat)) rfl rfl (wIe (by omega) (by omega))) trivial ?_
    refine tqh 5 rfl rfl rfl (fun _ hS => r_ix0 (i := (pp - q)) rfl rfl (by omega) (by omega) Try.underlying129 sz132) trivial ?_
    refine tqh 7 rfl rfl rfl (fun _ hS => r_mv (v := .slice _ _ _) rfl) trivial ?_
    refine tqh 8 rfl rfl rfl (fun _ hS => r_mv (v := .int _ _) rfl) trivial ?_
    refine tqh 9 rfl rfl rfl (fun _ hS => r_ix0 (i := q) rfl rfl (by omega) (by omega) Try.underlying129 sz132) trivial ?_
    refine t_up2 6 10 (by kernel_rfl) ?_ ?_
    ·refine up_mk rfl ?_
     refine s_run rfl rfl (r_lP H 0 rfl rfl cy ag132 sz132) ?_
     refine k_nil ?_
     refine t_on trivial ?_
     refine t_up1 10 (by kernel_rfl) ?_
     refine up_mk rfl ?_
     refine s_run rfl rfl (r_lP H 0 rfl rfl cx ag132 sz132) ?_
     refine k_nil ?_
     refine t_on trivial ?_
     refine t_up1 11 (by kernel_rfl) ?_
     refine up_mk rfl ?_
     refine s_callV rfl rfl rfl Try.func96 (by kernel_rfl) (by kernel_rfl) (hC _) ?_
     rintro e W1 ⟨rfl, H'⟩
     refine ⟨_, rfl, ?_⟩
     have H := H.same H'; clear H'
     refine k_nil ?_
     refine t_on trivial ?_
     refine tqh 12 rfl rfl rfl (fun _ hS => r_lssF rfl rfl (by omega)) trivial ?_
     refine tqh 13 rfl rfl rfl (fun _ hS => r_notF rfl) trivial ?_
     refine t_done (by kernel_rfl) ?_
     refine c_norm ?_
     refine k_t rfl ?_
     refine k_rg ?_
     refine s_run rfl rfl (rmi rfl) ?_
     refine s_run rfl rfl (r_add rfl rfl (wI (by omega))) ?_
     refine s_run rfl rfl (rai rfl) ?_
     refine k_nil ?_
     refine b_norm ?_
     refine c_round ?_
     exact ⟨_, _, by omega, rfl, q + 1, r, by omega, by omega, by omega, rfl, (fun k u v h1 h2 h3 h4 => by have g1 := St.getle hX h3 hx (by omega); have g2 := St.getle hY hy h4 (by omega); omega), hhi, rfl, rfl, rfl, rfl, rfl, rfl, rfl, rfl, rfl, rfl, H⟩
    ·refine up_mk rfl ?_
     refine s_run rfl rfl (r_lP H 0 rfl rfl cx ag132 sz132) ?_
     refine k_nil ?_
     refine t_on trivial ?_
     refine t_up1 6 (by kernel_rfl) ?_
     refine up_mk rfl ?_
     refine s_run rfl rfl (r_lP H 0 rfl rfl cy ag132 sz132) ?_
     refine k_nil ?_
     refine t_on trivial ?_
     refine t_up1 11 (by kernel_rfl) ?_
     refine up_mk rfl ?_
     refine s_callV rfl rfl rfl Try.func96 (by kernel_rfl) (by kernel_rfl) (hC _) ?_
     rintro e W1 ⟨rfl, H'⟩
     refine ⟨_, rfl, ?_⟩
     have H := H.same H'; clear H'
     refine k_nil ?_
     refine t_on trivial ?_
     refine tqh 12 rfl rfl rfl (fun _ hS => r_lssF rfl rfl (by omega)) trivial ?_
     refine tqh 13 rfl rfl rfl (fun _ hS => r_notF rfl) trivial ?_
     refine t_done (by kernel_rfl) ?_
     refine c_norm ?_
     refine k_t rfl ?_
     refine k_rg ?_
     refine s_run rfl rfl (rmi rfl) ?_
     refine s_run rfl rfl (r_add rfl rfl (wI (by omega))) ?_
     refine s_run rfl rfl (rai rfl) ?_
     refine k_nil ?_
     refine b_norm ?_
     refine c_round ?_
     exact ⟨_, _, by omega, rfl, q + 1, r, by omega, by omega, by omega, rfl, (fun k u v h1 h2 h3 h4 => by have g1 := St.getle hX h3 hx (by omega); have g2 := St.getle hY hy h4 (by omega); omega), hhi, rfl, rfl, rfl, rfl, rfl, rfl, rfl, rfl, rfl, rfl, H⟩
  obtain rfl : s = r := by omega
  obtain ⟨i, hi⟩ : ∃ i, s - a = i := ⟨_, rfl⟩
  obtain ⟨e, he⟩ : ∃ e, nn - s = e := ⟨_, rfl⟩
  obtain ⟨j, hj⟩ : ∃ j, e - m = j := ⟨_, rfl⟩
  have hij : s = a + i ∧ e = m + j ∧ i ≤ X.length ∧ j ≤ Y.length ∧ i + j + a = mid := by omega
  have hres := sym_split (i := i) (j := j) hX hY hc (by omega) (by omega) (fun x y h0 h1 h2 => hlo (s - 1) x y (by
   have := (List.getElem?_eq_some_iff.1 h2).1; omega) (by omega) (by rw [← h1]; congr 1; omega) (by rw [← h2]; congr 1; omega)) (fun x y h0 h1 h2 => hhi s x y (by omega) (by
   have := (List.getElem?_eq_some_iff.1 h1).1; omega) (by rw [hi]; exact h1) (by rw [← h2]; congr 1; omega))
  have hX12 : X = X.take i ++ X.drop i := (List.take_append_drop i X).symm
  have hY12 : Y = Y.take j ++ Y.drop j := (List.take_append_drop j Y).symm
  have hl1 : (X.take i).length = i := by rw [List.length_take]; omega
  have hl2 : (X.drop i).length = X.length - i := List.length_drop
  have hl3 : (Y.take j).length = j := by rw [List.length_take]; omega
  have hl4 : (Y.drop j).length = Y.length - j := List.length_drop
  have sX := hX
  have sY := hY
  rw [hX12] at sX
  rw [hY12] at sY
  obtain ⟨sX1, sX2, _⟩ := List.pairwise_append.1 sX
  obtain ⟨sY1, sY2, _⟩ := List.pairwise_append.1 sY
  have c1 : St.Cross (X.take i) (Y.take j) := hc.sub (fun _ h => List.mem_of_mem_take h) (fun _ h => List.mem_of_mem_take h)
  have c2 : St.Cross (X.drop i) (Y.drop j) := hc.sub (fun _ h => List.mem_of_mem_drop h) (fun _ h => List.mem_of_mem_drop h)
  have b1 : Bd (X.take i) := fun q h => hbX q (List.mem_of_mem_take h)
  have b2 : Bd (X.drop i) := fun q h => hbX q (List.mem_of_mem_drop h)
  have b3 : Bd (Y.take j) := fun q h => hbY q (List.mem_of_mem_take h)
  have b4 : Bd (Y.drop j) := fun q h => hbY q (List.mem_of_mem_drop h)
  have eL : A ++ X ++ Y ++ Z = A ++ X.take i ++ X.drop i ++ Y.take j ++ (Y.drop j ++ Z) := by
   rw [← List.append_assoc _ (Y.drop j), List.append_assoc _ (Y.take j), ← hY12, List.append_assoc A (X.take i), ← hX12]
  rw [eL] at H
  rw [← hres]
  clear hlo hhi hax hay eL hres hX12 hY12 sX sY hc hE hl hX hY hbX hbY
  generalize X.take i = X1 at *
  generalize X.drop i = X2 at *
  generalize Y.take j = Y1 at *
  generalize Y.drop j = Y2 at *
  refine k_seq ?_
  refine k_sg ?_
  refine s_run rfl rfl (rmi rfl) ?_
  refine s_run rfl rfl (rmi rfl) ?_
  refine s_run rfl rfl (r_lssF rfl rfl (by omega)) ?_
  refine k_nc ?_
  refine k_f rfl ?_
  refine k_exit ?_
  refine c_exit ?_
  refine c_exit ?_
  refine b_hit ?_
  refine c_norm ?_
  refine k_sg ?_
  refine s_run rfl rfl (rmi rfl) ?_
  refine s_run rfl rfl (rmi rfl) ?_
  refine s_run rfl rfl (r_sub (c := (e : Int)) rfl rfl (wIe (by omega) (by omega))) ?_
  refine s_run rfl rfl (rai rfl) ?_
  refine k_nc ?_
  refine k_seq ?_
  refine k_seq ?_
  refine k_cut (fun f W => f 0 = .slice (some ⟨p, 0, none⟩) n c ∧ f 1 = .int .i64 a ∧ f 2 = .int .i64 m ∧ f 3 = .int .i64 b ∧ f 4 = cmpF ∧ f 18 = .int .i64 mid ∧ f 20 = .int .i64 s ∧ f 24 = .int .i64 e ∧ f 185 = .bool (decide (s < m ∧ m < e)) ∧ Heap w I [prow p (A ++ X1 ++ X2 ++ Y1 ++ (Y2 ++ Z)) rs 132] W) ?_ ?_
  ·by_cases h1 : s < m
   ·by_cases h2 : m < e
    ·rw [decide_eq_true ⟨h1, h2⟩]
     refine k_rg ?_
     refine s_run rfl rfl (rmi rfl) ?_
     refine s_run rfl rfl (rmi rfl) ?_
     refine s_run rfl rfl (r_lssT rfl rfl (by omega)) ?_
     refine s_run rfl rfl (rmb rfl) ?_
     refine s_run rfl (g_on 181 (by kernel_rfl) rfl) (rmi rfl) ?_
     refine s_run rfl (g_on 181 (by kernel_rfl) rfl) (rmi rfl) ?_
     refine s_run rfl (g_on 181 (by kernel_rfl) rfl) (r_lssT rfl rfl (by omega)) ?_
     refine s_run rfl rfl (r_pkT (v := .bool _) rfl rfl) ?_
     refine k_nil ?_
     refine k_met ?_
     exact ⟨rfl, rfl, rfl, rfl, rfl, rfl, rfl, rfl, rfl, H⟩
    ·rw [decide_eq_false (fun h => h2 h.2)]
     refine k_rg ?_
     refine s_run rfl rfl (rmi rfl) ?_
     refine s_run rfl rfl (rmi rfl) ?_
     refine s_run rfl rfl (r_lssT rfl rfl (by omega)) ?_
     refine s_run rfl rfl (rmb rfl) ?_
     refine s_run rfl (g_on 181 (by kernel_rfl) rfl) (rmi rfl) ?_
     refine s_run rfl (g_on 181 (by kernel_rfl) rfl) (rmi rfl) ?_
     refine s_run rfl (g_on 181 (by kernel_rfl) rfl) (r_lssF rfl rfl (by omega)) ?_
     refine s_run rfl rfl (r_pkT (v := .bool _) rfl rfl) ?_
     refine k_nil ?_
     refine k_met ?_
     exact ⟨rfl, rfl, rfl, rfl, rfl, rfl, rfl, rfl, rfl, H⟩
   ·rw [decide_eq_false (fun h => h1 h.1)]
    refine k_rg ?_
    refine s_run rfl rfl (rmi rfl) ?_
    refine s_run rfl rfl (rmi rfl) ?_
    refine s_run rfl rfl (r_lssF rfl rfl (by omega)) ?_
    refine s_run rfl rfl (rmb rfl) ?_
    refine s_off rfl (g_off 181 (by kernel_rfl) rfl rfl) ?_
    refine s_off rfl (g_off 181 (by kernel_rfl) rfl rfl) ?_
    refine s_off rfl (g_off 181 (by kernel_rfl) rfl rfl) ?_
    refine s_run rfl rfl (r_pkF (v := .bool _) rfl rfl) ?_
    refine k_nil ?_
    refine k_met ?_
    exact ⟨rfl, rfl, rfl, rfl, rfl, rfl, rfl, rfl, rfl, H⟩
  clear H
  rintro f W ⟨f0, f1, f2, f3, f4, f18, f20, f24, fb, H⟩
  obtain ⟨f, rfl⟩ := live9S f0 f1 f2 f3 f4 f18 f20 f24 fb
  clear f0 f1 f2 f3 f4 f18 f20 f24 fb
  refine c_norm ?_
  refine k_cut (fun f W => f 0 = .slice (some ⟨p, 0, none⟩) n c ∧ f 1 = .int .i64 a ∧ f 2 = .int .i64 m ∧ f 3 = .int .i64 b ∧ f 4 = cmpF ∧ f 18 = .int .i64 mid ∧ f 20 = .int .i64 s ∧ f 24 = .int .i64 e ∧ Heap w I [prow p (A ++ X1 ++ Y1 ++ X2 ++ (Y2 ++ Z)) rs 132] W) ?_ ?_
  ·by_cases h1 : s < m ∧ m < e
   ·rw [decide_eq_true h1]
    have hR := fun {W : World} hE => zRot p c n rs (A ++ X1) X2 Y1 (Y2 ++ Z) W hE (by simp only [List.length_append]; omega) hn (by omega) (by omega)
    rw [List.length_append, ha, hl1, hl2, hl3, show a + i = s by omega, show s + (X.length - i) = m by omega, show m + j = e by omega] at hR
    refine k_t rfl ?_
    refine k_rg ?_
    refine s_run rfl rfl (rms rfl) ?_
    refine s_run rfl rfl (rmi rfl) ?_
    refine s_run rfl rfl (rmi rfl) ?_
    refine s_run rfl rfl (rmi rfl) ?_
    refine s_run rfl rfl (r_mv (v := .func _ _ _) rfl) ?_
    refine s_call rfl (hR (H.oneP 0 rfl)) (ca164 rfl) ?_
    rintro e W1 ⟨rfl, H'⟩
    refine ⟨_, rfl, ?_⟩
    have H := H.atP 0 rfl H'; clear H'; simp only [List.set_cons_zero] at H
    refine k_nil ?_
    refine k_met ?_
    exact ⟨rfl, rfl, rfl, rfl, rfl, rfl, rfl, rfl, H⟩
   ·rw [decide_eq_false h1]
    have e9 : A ++ X1 ++ X2 ++ Y1 ++ (Y2 ++ Z) = A ++ X1 ++ Y1 ++ X2 ++ (Y2 ++ Z) := by
     by_cases h2 : s < m
     ·have h3 : Y1 = [] := List.eq_nil_of_length_eq_zero (by omega)
      rw [h3]; simp
     ·have h3 : X2 = [] := List.eq_nil_of_length_eq_zero (by omega)
      rw [h3]; simp
    rw [e9] at H
    refine k_f rfl ?_
    refine k_skip ?_
    refine k_met ?_
    exact ⟨rfl, rfl, rfl, rfl, rfl, rfl, rfl, rfl, H⟩
  clear H
  rintro f W ⟨f0, f1, f2, f3, f4, f18, f20, f24, H⟩
  obtain ⟨f, rfl⟩ := live8S f0 f1 f2 f3 f4 f18 f20 f24
  clear f0 f1 f2 f3 f4 f18 f20 f24
  refine c_norm ?_
  refine k_seq ?_
  refine k_seq ?_
  refine k_cut (fun f W => f 0 = .slice (some ⟨p, 0, none⟩) n c ∧ f 1 = .int .i64 a ∧ f 2 = .int .i64 m ∧ f 3 = .int .i64 b ∧ f 4 = cmpF ∧ f 18 = .int .i64 mid ∧ f 20 = .int .i64 s ∧ f 24 = .int .i64 e ∧ f 199 = .bool (decide (a < s ∧ s < mid)) ∧ Heap w I [prow p (A ++ X1 ++ Y1 ++ X2 ++ (Y2 ++ Z)) rs 132] W) ?_ ?_
  ·by_cases h1 : a < s
   ·by_cases h2 : s < mid
    ·rw [decide_eq_true ⟨h1, h2⟩]
     refine k_rg ?_
     refine s_run rfl rfl (rmi rfl) ?_
     refine s_run rfl rfl (rmi rfl) ?_
     refine s_run rfl rfl (r_lssT rfl rfl (by omega)) ?_
     refine s_run rfl rfl (rmb rfl) ?_
     refine s_run rfl (g_on 195 (by kernel_rfl) rfl) (rmi rfl) ?_
     refine s_run rfl (g_on 195 (by kernel_rfl) rfl) (rmi rfl) ?_
     refine s_run rfl (g_on 195 (by kernel_rfl) rfl) (r_lssT rfl rfl (by omega)) ?_
     refine s_run rfl rfl (r_pkT (v := .bool _) rfl rfl) ?_
     refine k_nil ?_
     refine k_met ?_
     exact ⟨rfl, rfl, rfl, rfl, rfl, rfl, rfl, rfl, rfl, H⟩
    ·rw [decide_eq_false (fun h => h2 h.2)]
     refine k_rg ?_
     refine s_run rfl rfl (rmi rfl) ?_
     refine s_run rfl rfl (rmi rfl) ?_
     refine s_run rfl rfl (r_lssT rfl rfl (by omega)) ?_
     refine s_run rfl rfl (rmb rfl) ?_
     refine s_run rfl (g_on 195 (by kernel_rfl) rfl) (rmi rfl) ?_
     refine s_run rfl (g_on 195 (by kernel_rfl) rfl) (rmi rfl) ?_
     refine s_run rfl (g_on 195 (by kernel_rfl) rfl) (r_lssF rfl rfl (by omega)) ?_
     refine s_run rfl rfl (r_pkT (v := .bool _) rfl rfl) ?_
     refine k_nil ?_
     refine k_met ?_
     exact ⟨rfl, rfl, rfl, rfl, rfl, rfl, rfl, rfl, rfl, H⟩
   ·rw [decide_eq_false (fun h => h1 h.1)]
    refine k_rg ?_
    refine s_run rfl rfl (rmi rfl) ?_
    refine s_run rfl rfl (rmi rfl) ?_
    refine s_run rfl rfl (r_lssF rfl rfl (by omega)) ?_
    refine s_run rfl rfl (rmb rfl) ?_
    refine s_off rfl (g_off 195 (by kernel_rfl) rfl rfl) ?_
    refine s_off rfl (g_off 195 (by kernel_rfl) rfl rfl) ?_
    refine s_off rfl (g_off 195 (by kernel_rfl) rfl rfl) ?_
    refine s_run rfl rfl (r_pkF (v := .bool _) rfl rfl) ?_
    refine k_nil ?_
    refine k_met ?_
    exact ⟨rfl, rfl, rfl, rfl, rfl, rfl, rfl, rfl, rfl, H⟩
  clear H
  rintro f W ⟨f0, f1, f2, f3, f4, f18, f20, f24, fb, H⟩
  obtain ⟨f, rfl⟩ := live9S f0 f1 f2 f3 f4 f18 f20 f24 fb
  clear f0 f1 f2 f3 f4 f18 f20 f24 fb
  refine c_norm ?_
  refine k_cut (fun f W => f 0 = .slice (some ⟨p, 0, none⟩) n c ∧ f 1 = .int .i64 a ∧ f 2 = .int .i64 m ∧ f 3 = .int .i64 b ∧ f 4 = cmpF ∧ f 18 = .int .i64 mid ∧ f 20 = .int .i64 s ∧ f 24 = .int .i64 e ∧ Heap w I [prow p (A ++ St.ps (X1 ++ Y1) ++ X2 ++ Y2 ++ Z) rs 132] W) ?_ ?_
  ·by_cases h1 : a < s ∧ s < mid
   ·rw [decide_eq_true h1]
    have e8 : A ++ X1 ++ Y1 ++ X2 ++ (Y2 ++ Z) = A ++ X1 ++ Y1 ++ (X2 ++ Y2 ++ Z) := by simp
    have e7 : A ++ St.ps (X1 ++ Y1) ++ (X2 ++ Y2 ++ Z) = A ++ St.ps (X1 ++ Y1) ++ X2 ++ Y2 ++ Z := by simp
    have hR := fun {W : World} hE => IH A X1 Y1 (X2 ++ Y2 ++ Z) s mid W (by omega) hE (by simp only [List.length_append]; omega) (by omega) (by omega) sX1 sY1 c1 b1 b3 (by omega) (by omega)
    rw [ha, e7] at hR
    rw [e8] at H
    refine k_t rfl ?_
    refine k_rg ?_
    refine s_run rfl rfl (rms rfl) ?_
    refine s_run rfl rfl (rmi rfl) ?_
    refine s_run rfl rfl (rmi rfl) ?_
    refine s_run rfl rfl (rmi rfl) ?_
    refine s_run rfl rfl (r_mv (v := .func _ _ _) rfl) ?_
    refine s_call rfl (hR (H.oneP 0 rfl)) (ca149 rfl) ?_
    rintro e W1 ⟨rfl, H'⟩
    refine ⟨_, rfl, ?_⟩
    have H := H.atP 0 rfl H'; clear H'; simp only [List.set_cons_zero] at H
    refine k_nil ?_
    refine k_met ?_
    exact ⟨rfl, rfl, rfl, rfl, rfl, rfl, rfl, rfl, H⟩
   ·rw [decide_eq_false h1]
    have e9 : St.ps (X1 ++ Y1) = X1 ++ Y1 := by
     by_cases h2 : a < s
     ·have h3 : Y1 = [] := List.eq_nil_of_length_eq_zero (by omega)
      rw [h3, List.append_nil]; exact St.ps_id sX1
     ·have h3 : X1 = [] := List.eq_nil_of_length_eq_zero (by omega)
      rw [h3, List.nil_append]; exact St.ps_id sY1
    have e8 : A ++ X1 ++ Y1 ++ X2 ++ (Y2 ++ Z) = A ++ St.ps (X1 ++ Y1) ++ X2 ++ Y2 ++ Z := by rw [e9]; simp
    rw [e8] at H
    refine k_f rfl ?_
    refine k_skip ?_
    refine k_met ?_
    exact ⟨rfl, rfl, rfl, rfl, rfl, rfl, rfl, rfl, H⟩
  clear H
  rintro f W ⟨f0, f1, f2, f3, f4, f18, f20, f24, H⟩
  obtain ⟨f, rfl⟩ := live8S f0 f1 f2 f3 f4 f18 f20 f24
  clear f0 f1 f2 f3 f4 f18 f20 f24
  refine c_norm ?_
  refine k_seq ?_
  refine k_cut (fun f W => f 0 = .slice (some ⟨p, 0, none⟩) n c ∧ f 1 = .int .i64 a ∧ f 2 = .int .i64 m ∧ f 3 = .int .i64 b ∧ f 4 = cmpF ∧ f 18 = .int .i64 mid ∧ f 20 = .int .i64 s ∧ f 24 = .int .i64 e ∧ f 213 = .bool (decide (mid < e ∧ e < b)) ∧ Heap w I [prow p (A ++ St.ps (X1 ++ Y1) ++ X2 ++ Y2 ++ Z) rs 132] W) ?_ ?_
  ·by_cases h1 : mid < e
   ·by_cases h2 : e < b
    ·rw [decide_eq_true ⟨h1, h2⟩]
     refine k_rg ?_
     refine s_run rfl rfl (rmi rfl) ?_
     refine s_run rfl rfl (rmi rfl) ?_
     refine s_run rfl rfl (r_lssT rfl rfl (by omega)) ?_
     refine s_run rfl rfl (rmb rfl) ?_
     refine s_run rfl (g_on 209 (by kernel_rfl) rfl) (rmi rfl) ?_
     refine s_run rfl (g_on 209 (by kernel_rfl) rfl) (rmi rfl) ?_
     refine s_run rfl (g_on 209 (by kernel_rfl) rfl) (r_lssT rfl rfl (by omega)) ?_
     refine s_run rfl rfl (r_pkT (v := .bool _) rfl rfl) ?_
     refine k_nil ?_
     refine k_met ?_
     exact ⟨rfl, rfl, rfl, rfl, rfl, rfl, rfl, rfl, rfl, H⟩
    ·rw [decide_eq_false (fun h => h2 h.2)]
     refine k_rg ?_
     refine s_run rfl rfl (rmi rfl) ?_
     refine s_run rfl rfl (rmi rfl) ?_
     refine s_run rfl rfl (r_lssT rfl rfl (by omega)) ?_
     refine s_run rfl rfl (rmb rfl) ?_
     refine s_run rfl (g_on 209 (by kernel_rfl) rfl) (rmi rfl) ?_
     refine s_run rfl (g_on 209 (by kernel_rfl) rfl) (rmi rfl) ?_
     refine s_run rfl (g_on 209 (by kernel_rfl) rfl) (r_lssF rfl rfl (by omega)) ?_
     refine s_run rfl rfl (r_pkT (v := .bool _) rfl rfl) ?_
     refine k_nil ?_
     refine k_met ?_
     exact ⟨rfl, rfl, rfl, rfl, rfl, rfl, rfl, rfl, rfl, H⟩
   ·rw [decide_eq_false (fun h => h1 h.1)]
    refine k_rg ?_
    refine s_run rfl rfl (rmi rfl) ?_
    refine s_run rfl rfl (rmi rfl) ?_
    refine s_run rfl rfl (r_lssF rfl rfl (by omega)) ?_
    refine s_run rfl rfl (rmb rfl) ?_
    refine s_off rfl (g_off 209 (by kernel_rfl) rfl rfl) ?_
    refine s_off rfl (g_off 209 (by kernel_rfl) rfl rfl) ?_
    refine s_off rfl (g_off 209 (by kernel_rfl) rfl rfl) ?_
    refine s_run rfl rfl (r_pkF (v := .bool _) rfl rfl) ?_
    refine k_nil ?_
    refine k_met ?_
    exact ⟨rfl, rfl, rfl, rfl, rfl, rfl, rfl, rfl, rfl, H⟩
  clear H
  rintro f W ⟨f0, f1, f2, f3, f4, f18, f20, f24, fb, H⟩
  obtain ⟨f, rfl⟩ := live9S f0 f1 f2 f3 f4 f18 f20 f24 fb
  clear f0 f1 f2 f3 f4 f18 f20 f24 fb
  have hpl := St.ps_len (X1 ++ Y1)
  rw [List.length_append] at hpl
  by_cases h1 : mid < e ∧ e < b
  ·rw [decide_eq_true h1]
   have e7 : A ++ St.ps (X1 ++ Y1) ++ St.ps (X2 ++ Y2) ++ Z = A ++ (St.ps (X1 ++ Y1) ++ St.ps (X2 ++ Y2)) ++ Z := by simp
   have hR := fun {W : World} hE => IH (A ++ St.ps (X1 ++ Y1)) X2 Y2 Z e b W (by omega) hE (by simp only [List.length_append]; omega) (by omega) (by omega) sX2 sY2 c2 b2 b4 (by rw [List.length_append]; omega) (by rw [List.length_append]; omega)
   rw [List.length_append, ha, hpl, hl1, hl3, show a + (i + j) = mid by omega, e7] at hR
   refine c_norm ?_
   refine k_t rfl ?_
   refine k_rg ?_
   refine s_run rfl rfl (rms rfl) ?_
   refine s_run rfl rfl (rmi rfl) ?_
   refine s_run rfl rfl (rmi rfl) ?_
   refine s_run rfl rfl (rmi rfl) ?_
   refine s_run rfl rfl (r_mv (v := .func _ _ _) rfl) ?_
   refine s_call rfl (hR (H.oneP 0 rfl)) (ca149 rfl) ?_
   rintro e W1 ⟨rfl, H'⟩
   refine ⟨_, rfl, ?_⟩
   have H := H.atP 0 rfl H'; clear H'; simp only [List.set_cons_zero] at H
   refine k_nil ?_
   refine fin0  rfl ?_
   exact ⟨rfl, H⟩
  ·rw [decide_eq_false h1]
   have e9 : St.ps (X2 ++ Y2) = X2 ++ Y2 := by
    by_cases h2 : mid < e
    ·have h3 : Y2 = [] := List.eq_nil_of_length_eq_zero (by omega)
     rw [h3, List.append_nil]; exact St.ps_id sX2
    ·have h3 : X2 = [] := List.eq_nil_of_length_eq_zero (by omega)
     rw [h3, List.nil_append]; exact St.ps_id sY2
   have e8 : A ++ St.ps (X1 ++ Y1) ++ X2 ++ Y2 ++ Z = A ++ (St.ps (X1 ++ Y1) ++ St.ps (X2 ++ Y2)) ++ Z := by rw [e9]; simp
   rw [e8] at H
   refine c_norm ?_
   refine k_f rfl ?_
   refine k_skip ?_
   refine fin0  rfl ?_
   exact ⟨rfl, H⟩
end Go.Proofs.Ytlakbclnilakbaa
end

section
namespace Go.Proofs.Ytlakbclnilakbaa.St
def ch (B q : Nat) (l : List Q) : List Q := (l.drop (q * B)).take B
theorem ch_len (B q : Nat) (l : List Q) : (ch B q l).length = min B (l.length - q * B) := by unfold ch; rw [List.length_take, List.length_drop]
theorem ch_split (B q : Nat) (l : List Q) : l = l.take (q * B) ++ ch B q l ++ l.drop (q * B + B) := by
 unfold ch
 rw [← List.drop_drop, List.append_assoc, List.take_append_drop, List.take_append_drop]
theorem ch_dbl (B q : Nat) (l : List Q) : ch (2 * B) q l = ch B (2 * q) l ++ ch B (2 * q + 1) l := by
 have e1 : 2 * q * B = q * (2 * B) := by rw [Nat.mul_comm 2 q, Nat.mul_assoc]
 have e2 : (2 * q + 1) * B = q * (2 * B) + B := by rw [Nat.add_mul, Nat.one_mul, e1]
 unfold ch
 rw [e1, e2, ← List.drop_drop, Nat.two_mul, List.take_add]
theorem ch_out {B q : Nat} {l : List Q} (h : l.length ≤ q * B) : ch B q l = [] := by unfold ch; rw [List.drop_of_length_le h]; simp
theorem ch_lt {B j : Nat} {A R R' : List Q} (h : j * B + B ≤ A.length) : ch B j (A ++ R) = ch B j (A ++ R') := by
 unfold ch
 rw [List.drop_append_of_le_length (by omega), List.drop_append_of_le_length (by omega), List.take_append_of_le_length (by rw [List.length_drop]; omega), List.take_append_of_le_length (by rw [List.length_drop]; omega)]
theorem ch_ge {B j : Nat} {A A' R : List Q} (h : A.length ≤ j * B) (he : A.length = A'.length) : ch B j (A ++ R) = ch B j (A' ++ R) := by
 unfold ch
 rw [List.drop_append, List.drop_append, List.drop_of_length_le (l := A) h, List.drop_of_length_le (l := A') (by omega), he]
theorem ch_at {B q : Nat} {A R : List Q} (h : A.length = q * B) : ch B q (A ++ R) = R.take B := by
 unfold ch; rw [List.drop_left' h]
theorem mul_lt {j q B : Nat} (h : j < q) : j * B + B ≤ q * B := by
 have := Nat.mul_le_mul_right B (show j + 1 ≤ q by omega)
 rw [Nat.add_mul, Nat.one_mul] at this; exact this
/-- a piece is put in the place of another one -/
theorem ch_upd {B q : Nat} {A M M' Z : List Q} (hA : A.length = q * B) (hl : M'.length = M.length) (hM : M.length = B ∨ Z = [] ∧ M.length ≤ B) : ch B q (A ++ M' ++ Z) = M' ∧ ∀ j, j ≠ q → ch B j (A ++ M' ++ Z) = ch B j (A ++ M ++ Z) := by
 constructor
 ·rw [List.append_assoc, ch_at hA]
  rcases hM with h | ⟨h, h2⟩
  ·exact List.take_left' (by omega)
  ·rw [h, List.append_nil]; exact List.take_of_length_le (by omega)
 ·intro j hj
  rcases Nat.lt_or_ge j q with h | h
  ·rw [List.append_assoc, List.append_assoc]
   exact ch_lt (by rw [hA]; exact mul_lt h)
  ·rcases hM with h1 | ⟨h1, h2⟩
   ·refine ch_ge ?_ (by rw [List.length_append, List.length_append, hl])
    rw [List.length_append, hA, hl, h1]; exact mul_lt (by omega)
   ·have h3 := mul_lt (B := B) (show q < j by omega)
    rw [h1, ch_out (by rw [List.append_nil, List.length_append]; omega), ch_out (by rw [List.append_nil, List.length_append]; omega)]
theorem ch_sub {B q : Nat} {l : List Q} : (ch B q l).Sublist l := (List.take_sublist _ _).trans (List.drop_sublist _ _)
/-- of alike ones those ahead are the lesser, throughout -/
def Asc (l : List Q) : Prop := l.Pairwise fun x y => x.2 = y.2 → x.1 ≤ y.1
theorem Asc.ch {l : List Q} (h : Asc l) (B q : Nat) : Asc (ch B q l) := List.Pairwise.sublist ch_sub h
theorem Asc.cross {l : List Q} (h : Asc l) (B q : Nat) : Cross (St.ch B (2 * q) l) (St.ch B (2 * q + 1) l) := by
 have h1 := h.ch (2 * B) q
 rw [ch_dbl] at h1
 exact (List.pairwise_append.1 h1).2.2
theorem cross_ps {X Y : List Q} (h : Cross X Y) : Cross (ps X) (ps Y) := h.sub (fun x hx => (ps_perm X).mem_iff.1 hx) (fun y hy => (ps_perm Y).mem_iff.1 hy)
end Go.Proofs.Ytlakbclnilakbaa.St
end

section
namespace Go.Proofs.Ytlakbclnilakbaa
open Go.RowKit
set_option maxRecDepth 100000
set_option maxHeartbeats 8000000
open St (Q)
theorem bd_ch {l : List Q} (h : Bd l) (B q : Nat) : Bd (St.ch B q l) := fun x hx => h x (St.ch_sub.subset hx)
theorem bd_ps {l : List Q} (h : Bd l) : Bd (St.ps l) := fun x hx => h x ((St.ps_perm l).mem_iff.1 hx)
theorem zStable (p c n : Nat) (rs : List Value) (l0 : List Q) (w : World) (hE : Ents [prow p l0 rs 132] w) (hl0 : l0.length = n) (hn : n ≤ 100000) (hA : St.Asc l0) (hb : Bd l0) :
  Calls Try.prog 126 [.slice (some ⟨p, 0, none⟩) n c, .int .i64 n, cmpF].toArray w fun e w' => e = .returned (.tuple #[]) ∧ Heap w (ids [prow p l0 rs 132]) [prow p (St.ps l0) rs 132] w' := by
 have H := Heap.start hE
 generalize ids [prow p l0 rs 132] = I at *
 refine k_in (N := 63) Try.func126 rfl rfl rfl ?_
 refine k_sg ?_
 refine s_run rfl rfl (rai rfl) ?_
 refine k_nc ?_
 refine k_sg ?_
 refine s_run rfl rfl (rmi rfl) ?_
 refine s_run rfl rfl (rai rfl) ?_
 refine s_run rfl rfl (rai rfl) ?_
 refine k_nc ?_
 refine k_seq ?_
 refine k_b ?_
 refine k_loop (fun z f W => ∃ (q : Nat) (l : List Q), q * 20 ≤ n ∧ z = n - q * 20 ∧ l.length = n ∧ (∀ j, j < q → St.ch 20 j l = St.ps (St.ch 20 j l0)) ∧ (∀ j, q ≤ j → St.ch 20 j l = St.ch 20 j l0) ∧ f 0 = .slice (some ⟨p, 0, none⟩) n c ∧ f 1 = .int .i64 n ∧ f 2 = cmpF ∧ f 6 = .int .i64 20 ∧ f 7 = .int .i64 (q * 20 : Nat) ∧ f 8 = .int .i64 (q * 20 + 20 : Nat) ∧ Heap w I [prow p l rs 132] W) n ⟨0, l0, by omega, rfl, hl0, (fun j h => by omega), (fun j h => rfl), rfl, rfl, rfl, rfl, rfl, rfl, H⟩ ?_
 clear H
 rintro z f W ⟨q, l, hq, rfl, hl, hlo, hhi, f0, f1, f2, f6, f7, f8, H⟩
 obtain ⟨f, rfl⟩ := live6 f0 f1 f2 f6 f7 f8
 clear f0 f1 f2 f6 f7 f8
 have hcq := hhi q (Nat.le_refl _)
 have hsp := St.ch_split 20 q l
 have hchl := St.ch_len 20 q l
 have htl : (l.take (q * 20)).length = q * 20 := by rw [List.length_take]; omega
 by_cases hlt : q * 20 + 20 ≤ n
 ·have hI := fun {W : World} hE => zIns p c n rs (l.take (q * 20)) (St.ch 20 q l) (l.drop (q * 20 + 20)) W hE (by rw [← hsp]; exact hl) (by omega) (by rw [hcq]; exact hA.ch 20 q) (by rw [hcq]; exact bd_ch hb 20 q)
  rw [← hsp, htl, show q * 20 + (St.ch 20 q l).length = q * 20 + 20 by omega] at hI
  obtain ⟨u1, u2⟩ := St.ch_upd (B := 20) (q := q) (A := l.take (q * 20)) (M := St.ch 20 q l) (M' := St.ps (St.ch 20 q l)) (Z := l.drop (q * 20 + 20)) htl (St.ps_len _) (.inl (by omega))
  rw [← hsp] at u2
  refine k_seq ?_
  refine k_sg ?_
  refine s_run rfl rfl (rmi rfl) ?_
  refine s_run rfl rfl (rmi rfl) ?_
  refine s_run rfl rfl (r_leqT rfl rfl (by omega)) ?_
  refine k_nc ?_
  refine k_t rfl ?_
  refine k_skip ?_
  refine c_norm ?_
  refine k_b ?_
  refine k_sg ?_
  refine s_run rfl rfl (rms rfl) ?_
  refine s_run rfl rfl (rmi rfl) ?_
  refine s_run rfl rfl (rmi rfl) ?_
  refine s_run rfl rfl (r_mv (v := .func _ _ _) rfl) ?_
  refine s_call rfl (hI (H.oneP 0 rfl)) (ca148 rfl) ?_
  rintro e W1 ⟨rfl, H'⟩
  refine ⟨_, rfl, ?_⟩
  have H := H.atP 0 rfl H'; clear H'; simp only [List.set_cons_zero] at H
  refine k_nc ?_
  refine k_sg ?_
  refine s_run rfl rfl (rmi rfl) ?_
  refine s_run rfl rfl (rai rfl) ?_
  refine k_nc ?_
  refine k_rg ?_
  refine s_run rfl rfl (rmi rfl) ?_
  refine s_run rfl rfl (rmi rfl) ?_
  refine s_run rfl rfl (r_add rfl rfl (wI (by omega))) ?_
  refine s_run rfl rfl (rai rfl) ?_
  refine k_nil ?_
  refine b_norm ?_
  refine c_round ?_
  have hl2 : (l.take (q * 20) ++ St.ps (St.ch 20 q l) ++ l.drop (q * 20 + 20)).length = n := by
   simp only [List.length_append, St.ps_len, htl, List.length_drop]; omega
  exact ⟨_, _, by omega, rfl, q + 1, _, by omega, rfl, hl2, (fun j hj => by
   by_cases e : j = q
   ·subst e; rw [u1, hcq]
   ·rw [u2 j e]; exact hlo j (by omega)), (fun j hj => by rw [u2 j (by omega)]; exact hhi j (by omega)), rfl, rfl, rfl, rfl, by rw [show (q + 1) * 20 = q * 20 + 20 by omega]; rfl, by rw [show (q + 1) * 20 + 20 = q * 20 + 20 + 20 by omega]; rfl, H⟩
 ·have hdz : l.drop (q * 20 + 20) = [] := List.drop_of_length_le (by omega)
  rw [hdz] at hsp
  have hI := fun {W : World} hE => zIns p c n rs (l.take (q * 20)) (St.ch 20 q l) [] W hE (by rw [← hsp]; exact hl) (by omega) (by rw [hcq]; exact hA.ch 20 q) (by rw [hcq]; exact bd_ch hb 20 q)
  rw [← hsp, htl, show q * 20 + (St.ch 20 q l).length = n by omega] at hI
  obtain ⟨u1, u2⟩ := St.ch_upd (B := 20) (q := q) (A := l.take (q * 20)) (M := St.ch 20 q l) (M' := St.ps (St.ch 20 q l)) (Z := []) htl (St.ps_len _) (.inr ⟨rfl, by omega⟩)
  rw [← hsp] at u2
  have hl2 : (l.take (q * 20) ++ St.ps (St.ch 20 q l) ++ []).length = n := by
   simp only [List.length_append, St.ps_len, htl, List.length_nil]; omega
  have hall : ∀ j, St.ch 20 j (l.take (q * 20) ++ St.ps (St.ch 20 q l) ++ []) = St.ps (St.ch 20 j l0) := fun j => by
   by_cases e : j = q
   ·subst e; rw [u1, hcq]
   ·rw [u2 j e]
    rcases Nat.lt_or_ge j q with h | h
    ·exact hlo j h
    ·have := St.mul_lt (B := 20) (show q < j by omega)
     rw [St.ch_out (by omega), St.ch_out (by omega)]; exact (St.ps_id List.Pairwise.nil).symm
  refine k_seq ?_
  refine k_sg ?_
  refine s_run rfl rfl (rmi rfl) ?_
  refine s_run rfl rfl (rmi rfl) ?_
  refine s_run rfl rfl (r_leqF rfl rfl (by omega)) ?_
  refine k_nc ?_
  refine k_f rfl ?_
  refine k_exit ?_
  refine c_exit ?_
  refine c_exit ?_
  refine b_hit ?_
  refine c_norm ?_
  refine k_sg ?_
  refine s_run rfl rfl (rms rfl) ?_
  refine s_run rfl rfl (rmi rfl) ?_
  refine s_run rfl rfl (rmi rfl) ?_
  refine s_run rfl rfl (r_mv (v := .func _ _ _) rfl) ?_
  refine s_call rfl (hI (H.oneP 0 rfl)) (ca148 rfl) ?_
  rintro e W1 ⟨rfl, H'⟩
  refine ⟨_, rfl, ?_⟩
  have H := H.atP 0 rfl H'; clear H'; simp only [List.set_cons_zero] at H
  refine k_nc ?_
  refine k_b ?_
  clear hlo hhi hcq hsp hchl htl hI u1 u2 hdz
  generalize l.take (q * 20) ++ St.ps (St.ch 20 q l) ++ [] = l at *
  refine k_loop (fun z f W => ∃ (bs : Nat) (l : List Q), 20 ≤ bs ∧ bs ≤ 2 * n + 20 ∧ z = n + 1 - bs ∧ l.length = n ∧ (∀ j, St.ch bs j l = St.ps (St.ch bs j l0)) ∧ f 0 = .slice (some ⟨p, 0, none⟩) n c ∧ f 1 = .int .i64 n ∧ f 2 = cmpF ∧ f 6 = .int .i64 bs ∧ Heap w I [prow p l rs 132] W) (n + 1 - 20) ⟨20, l, by omega, by omega, rfl, hl2, hall, rfl, rfl, rfl, rfl, H⟩ ?_
  clear H hall hl2 hl hlt
  rintro z f W ⟨bs, l, hbs, hbs2, rfl, hl, hall, f0, f1, f2, f6, H⟩
  obtain ⟨f, rfl⟩ := live4 f0 f1 f2 f6
  clear f0 f1 f2 f6
  by_cases hbn : bs < n
  ·refine k_seq ?_
   refine k_sg ?_
   refine s_run rfl rfl (rmi rfl) ?_
   refine s_run rfl rfl (rmi rfl) ?_
   refine s_run rfl rfl (r_lssT rfl rfl (by omega)) ?_
   refine k_nc ?_
   refine k_t rfl ?_
   refine k_skip ?_
   refine c_norm ?_
   refine k_b ?_
   refine k_sg ?_
   refine s_run rfl rfl (rmi rfl) ?_
   refine s_run rfl rfl (r_mul rfl rfl (wI (by omega))) ?_
   refine s_run rfl rfl (rai rfl) ?_
   refine s_run rfl rfl (rai rfl) ?_
   refine k_nc ?_
   refine k_seq ?_
   refine k_b ?_
   refine k_loop (fun z f W => ∃ (q : Nat) (l : List Q), q * (2 * bs) ≤ n ∧ z = n - q * (2 * bs) ∧ l.length = n ∧ (∀ j, j < q → St.ch (2 * bs) j l = St.ps (St.ch (2 * bs) j l0)) ∧ (∀ j, 2 * q ≤ j → St.ch bs j l = St.ps (St.ch bs j l0)) ∧ f 0 = .slice (some ⟨p, 0, none⟩) n c ∧ f 1 = .int .i64 n ∧ f 2 = cmpF ∧ f 6 = .int .i64 bs ∧ f 7 = .int .i64 (q * (2 * bs) : Nat) ∧ f 8 = .int .i64 (q * (2 * bs) + 2 * bs : Nat) ∧ Heap w I [prow p l rs 132] W) n ⟨0, l, by omega, by omega, hl, (fun j h => by omega), (fun j h => hall j), rfl, rfl, rfl, rfl, by rw [Nat.zero_mul]; rfl, by show Value.int .i64 _ = Value.int .i64 _; congr 1; omega, H⟩ ?_
   clear H hl hall
   rintro z f W ⟨q, l, hq, rfl, hl, hlo, hhi, f0, f1, f2, f6, f7, f8, H⟩
   obtain ⟨f, rfl⟩ := live6 f0 f1 f2 f6 f7 f8
   clear f0 f1 f2 f6 f7 f8
   have hX := hhi (2 * q) (Nat.le_refl _)
   have hY := hhi (2 * q + 1) (by omega)
   have hdb := St.ch_dbl bs q l
   have hdb0 := St.ch_dbl bs q l0
   have hsp := St.ch_split (2 * bs) q l
   have hchl := St.ch_len (2 * bs) q l
   have e1 : 2 * q * bs = q * (2 * bs) := by rw [Nat.mul_comm 2 q, Nat.mul_assoc]
   have e2 : (2 * q + 1) * bs = q * (2 * bs) + bs := by rw [Nat.add_mul, Nat.one_mul, e1]
   have hxl := St.ch_len bs (2 * q) l
   have hyl := St.ch_len bs (2 * q + 1) l
   rw [e1] at hxl
   rw [e2] at hyl
   generalize ha : q * (2 * bs) = a at *
   have htl : (l.take a).length = a := by rw [List.length_take]; omega
   have hpp : St.ps (St.ch bs (2 * q) l ++ St.ch bs (2 * q + 1) l) = St.ps (St.ch (2 * bs) q l0) := by rw [hX, hY, St.ps_app, hdb0]
   have hcr : St.Cross (St.ch bs (2 * q) l) (St.ch bs (2 * q + 1) l) := by rw [hX, hY]; exact St.cross_ps (hA.cross bs q)
   have hsX : (St.ch bs (2 * q) l).Pairwise St.le := by rw [hX]; exact St.ps_sorted _
   have hsY : (St.ch bs (2 * q + 1) l).Pairwise St.le := by rw [hY]; exact St.ps_sorted _
   have hbX : Bd (St.ch bs (2 * q) l) := by rw [hX]; exact bd_ps (bd_ch hb _ _)
   have hbY : Bd (St.ch bs (2 * q + 1) l) := by rw [hY]; exact bd_ps (bd_ch hb _ _)
   by_cases hlt2 : a + 2 * bs ≤ n
   ·have hsp2 : l = l.take a ++ St.ch bs (2 * q) l ++ St.ch bs (2 * q + 1) l ++ l.drop (a + 2 * bs) := by rw [List.append_assoc (l.take a), ← hdb]; exact hsp
    have hS := fun {W : World} hE => zSym p c n rs (by omega) _ (l.take a) (St.ch bs (2 * q) l) (St.ch bs (2 * q + 1) l) (l.drop (a + 2 * bs)) (a + bs) (a + 2 * bs) W (Nat.le_refl _) hE (by rw [← hsp2]; exact hl) (by omega) (by omega) hsX hsY hcr hbX hbY (by omega) (by omega)
    rw [← hsp2, htl, hpp] at hS
    obtain ⟨u1, u2⟩ := St.ch_upd (B := 2 * bs) (q := q) (A := l.take a) (M := St.ch (2 * bs) q l) (M' := St.ps (St.ch (2 * bs) q l0)) (Z := l.drop (a + 2 * bs)) (by rw [htl, ha]) (by rw [← hpp, St.ps_len, hdb]) (.inl (by omega))
    rw [← hsp] at u2
    have hpl : (St.ps (St.ch (2 * bs) q l0)).length = 2 * bs := by rw [← hpp, St.ps_len, List.length_append]; omega
    have hnb : ∀ j, 2 * (q + 1) ≤ j → St.ch bs j (l.take a ++ St.ps (St.ch (2 * bs) q l0) ++ l.drop (a + 2 * bs)) = St.ps (St.ch bs j l0) := fun j hj => by
     have g1 : a + 2 * bs ≤ j * bs := by
      have := Nat.mul_le_mul_right bs hj
      rw [show 2 * (q + 1) * bs = q * (2 * bs) + 2 * bs by rw [Nat.mul_add, Nat.add_mul, e1, ha]] at this
      omega
     have g2 := St.ch_ge (B := bs) (j := j) (A := l.take a ++ St.ps (St.ch (2 * bs) q l0)) (A' := l.take a ++ St.ch (2 * bs) q l) (R := l.drop (a + 2 * bs)) (by rw [List.length_append, htl, hpl]; omega) (by rw [List.length_append, List.length_append, hpl]; omega)
     rw [g2, ← hsp]; exact hhi j (by omega)
    refine k_seq ?_
    refine k_sg ?_
    refine s_run rfl rfl (rmi rfl) ?_
    refine s_run rfl rfl (rmi rfl) ?_
    refine s_run rfl rfl (r_leqT rfl rfl (by omega)) ?_
    refine k_nc ?_
    refine k_t rfl ?_
    refine k_skip ?_
    refine c_norm ?_
    refine k_b ?_
    refine k_sg ?_
    refine s_run rfl rfl (rms rfl) ?_
    refine s_run rfl rfl (rmi rfl) ?_
    refine s_run rfl rfl (rmi rfl) ?_
    refine s_run rfl rfl (rmi rfl) ?_
    refine s_run rfl rfl (r_add rfl rfl (wI (by omega))) ?_
    refine s_run rfl rfl (rmi rfl) ?_
    refine s_run rfl rfl (r_mv (v := .func _ _ _) rfl) ?_
    refine s_call rfl (hS (H.oneP 0 rfl)) (ca149 rfl) ?_
    rintro e W1 ⟨rfl, H'⟩
    refine ⟨_, rfl, ?_⟩
    have H := H.atP 0 rfl H'; clear H'; simp only [List.set_cons_zero] at H
    refine k_nc ?_
    refine k_sg ?_
    refine s_run rfl rfl (rmi rfl) ?_
    refine s_run rfl rfl (rai rfl) ?_
    refine k_nc ?_
    refine k_rg ?_
    refine s_run rfl rfl (rmi rfl) ?_
    refine s_run rfl rfl (rmi rfl) ?_
    refine s_run rfl rfl (r_mul rfl rfl (wI (by omega))) ?_
    refine s_run rfl rfl (r_add rfl rfl (wI (by omega))) ?_
    refine s_run rfl rfl (rai rfl) ?_
    refine k_nil ?_
    refine b_norm ?_
    refine c_round ?_
    have hl2 : (l.take a ++ St.ps (St.ch (2 * bs) q l0) ++ l.drop (a + 2 * bs)).length = n := by
     simp only [List.length_append, hpl, htl, List.length_drop]; omega
    have e3 : (q + 1) * (2 * bs) = a + 2 * bs := by rw [Nat.add_mul, Nat.one_mul, ha]
    exact ⟨n - (a + 2 * bs), _, by omega, rfl, q + 1, _, by omega, by rw [e3], hl2, (fun j hj => by
     by_cases e : j = q
     ·subst e; rw [u1]
     ·rw [u2 j e]; exact hlo j (by omega)), hnb, rfl, rfl, rfl, rfl, by rw [e3]; rfl, by rw [e3]; rfl, H⟩
   ·have hnew : ∀ (l' : List Q), l'.length = n → St.ch (2 * bs) q l' = St.ps (St.ch (2 * bs) q l0) → (∀ j, j ≠ q → St.ch (2 * bs) j l' = St.ch (2 * bs) j l) → ∀ j, St.ch (2 * bs) j l' = St.ps (St.ch (2 * bs) j l0) := fun l' hl' h1 h2 j => by
     by_cases e : j = q
     ·subst e; exact h1
     ·rw [h2 j e]
      rcases Nat.lt_or_ge j q with h | h
      ·exact hlo j h
      ·have := St.mul_lt (B := 2 * bs) (show q < j by omega)
       rw [ha] at this
       rw [St.ch_out (by omega), St.ch_out (by omega)]; exact (St.ps_id List.Pairwise.nil).symm
    have hdz : l.drop (a + 2 * bs) = [] := List.drop_of_length_le (by omega)
    rw [hdz] at hsp
    by_cases hmn : a + bs < n
    ·have hsp2 : l = l.take a ++ St.ch bs (2 * q) l ++ St.ch bs (2 * q + 1) l ++ [] := by rw [List.append_assoc (l.take a), ← hdb]; exact hsp
     have hS := fun {W : World} hE => zSym p c n rs (by omega) _ (l.take a) (St.ch bs (2 * q) l) (St.ch bs (2 * q + 1) l) [] (a + bs) n W (Nat.le_refl _) hE (by rw [← hsp2]; exact hl) (by omega) (by omega) hsX hsY hcr hbX hbY (by omega) (by omega)
     rw [← hsp2, htl, hpp] at hS
     obtain ⟨u1, u2⟩ := St.ch_upd (B := 2 * bs) (q := q) (A := l.take a) (M := St.ch (2 * bs) q l) (M' := St.ps (St.ch (2 * bs) q l0)) (Z := []) (by rw [htl, ha]) (by rw [← hpp, St.ps_len, hdb]) (.inr ⟨rfl, by omega⟩)
     rw [← hsp] at u2
     have hpl : (St.ps (St.ch (2 * bs) q l0)).length = n - a := by rw [← hpp, St.ps_len, List.length_append]; omega
     have hl2 : (l.take a ++ St.ps (St.ch (2 * bs) q l0) ++ []).length = n := by
      simp only [List.length_append, hpl, htl, List.length_nil]; omega
     refine k_seq ?_
     refine k_sg ?_
     refine s_run rfl rfl (rmi rfl) ?_
     refine s_run rfl rfl (rmi rfl) ?_
     refine s_run rfl rfl (r_leqF rfl rfl (by omega)) ?_
     refine k_nc ?_
     refine k_f rfl ?_
     refine k_exit ?_
     refine c_exit ?_
     refine c_exit ?_
     refine b_hit ?_
     refine c_norm ?_
     refine k_seq ?_
     refine k_sg ?_
     refine s_run rfl rfl (rmi rfl) ?_
     refine s_run rfl rfl (rmi rfl) ?_
     refine s_run rfl rfl (r_add rfl rfl (wI (by omega))) ?_
     refine s_run rfl rfl (rai rfl) ?_
     refine k_nc ?_
     refine k_sg ?_
     refine s_run rfl rfl (rmi rfl) ?_
     refine s_run rfl rfl (rmi rfl) ?_
     refine s_run rfl rfl (r_lssT rfl rfl (by omega)) ?_
     refine k_nc ?_
     refine k_t rfl ?_
     refine k_rg ?_
     refine s_run rfl rfl (rms rfl) ?_
     refine s_run rfl rfl (rmi rfl) ?_
     refine s_run rfl rfl (rmi rfl) ?_
     refine s_run rfl rfl (rmi rfl) ?_
     refine s_run rfl rfl (r_mv (v := .func _ _ _) rfl) ?_
     refine s_call rfl (hS (H.oneP 0 rfl)) (ca149 rfl) ?_
     rintro e W1 ⟨rfl, H'⟩
     refine ⟨_, rfl, ?_⟩
     have H := H.atP 0 rfl H'; clear H'; simp only [List.set_cons_zero] at H
     refine k_nc ?_
     refine k_rg ?_
     refine s_run rfl rfl (rmi rfl) ?_
     refine s_run rfl rfl (r_mul rfl rfl (wI (by omega))) ?_
     refine s_run rfl rfl (rai rfl) ?_
     refine k_nil ?_
     refine b_norm ?_
     refine c_round ?_
     exact ⟨n + 1 - 2 * bs, _, by omega, rfl, 2 * bs, _, by omega, by omega, rfl, hl2, hnew _ hl2 u1 u2, rfl, rfl, rfl, by show Value.int .i64 _ = Value.int .i64 _; congr 1; omega, H⟩
    ·have hyz : St.ch bs (2 * q + 1) l = [] := List.eq_nil_of_length_eq_zero (by omega)
     have hc1 : St.ch (2 * bs) q l = St.ps (St.ch (2 * bs) q l0) := by
      rw [← hpp, hyz, List.append_nil, hdb, hyz, List.append_nil]; exact (St.ps_id hsX).symm
     refine k_seq ?_
     refine k_sg ?_
     refine s_run rfl rfl (rmi rfl) ?_
     refine s_run rfl rfl (rmi rfl) ?_
     refine s_run rfl rfl (r_leqF rfl rfl (by omega)) ?_
     refine k_nc ?_
     refine k_f rfl ?_
     refine k_exit ?_
     refine c_exit ?_
     refine c_exit ?_
     refine b_hit ?_
     refine c_norm ?_
     refine k_seq ?_
     refine k_sg ?_
     refine s_run rfl rfl (rmi rfl) ?_
     refine s_run rfl rfl (rmi rfl) ?_
     refine s_run rfl rfl (r_add rfl rfl (wI (by omega))) ?_
     refine s_run rfl rfl (rai rfl) ?_
     refine k_nc ?_
     refine k_sg ?_
     refine s_run rfl rfl (rmi rfl) ?_
     refine s_run rfl rfl (rmi rfl) ?_
     refine s_run rfl rfl (r_lssF rfl rfl (by omega)) ?_
     refine k_nc ?_
     refine k_f rfl ?_
     refine k_skip ?_
     refine c_norm ?_
     refine k_rg ?_
     refine s_run rfl rfl (rmi rfl) ?_
     refine s_run rfl rfl (r_mul rfl rfl (wI (by omega))) ?_
     refine s_run rfl rfl (rai rfl) ?_
     refine k_nil ?_
     refine b_norm ?_
     refine c_round ?_
     exact ⟨n + 1 - 2 * bs, _, by omega, rfl, 2 * bs, l, by omega, by omega, rfl, hl, hnew l hl hc1 (fun _ _ => rfl), rfl, rfl, rfl, by show Value.int .i64 _ = Value.int .i64 _; congr 1; omega, H⟩
  ·have h1 := hall 0
   have e4 : ∀ l' : List Q, l'.length = n → St.ch bs 0 l' = l' := fun l' h => by
    unfold St.ch; rw [Nat.zero_mul, List.drop_zero]; exact List.take_of_length_le (by omega)
   rw [e4 l hl, e4 l0 hl0] at h1
   refine k_seq ?_
   refine k_sg ?_
   refine s_run rfl rfl (rmi rfl) ?_
   refine s_run rfl rfl (rmi rfl) ?_
   refine s_run rfl rfl (r_lssF rfl rfl (by omega)) ?_
   refine k_nc ?_
   refine k_f rfl ?_
   refine k_exit ?_
   refine c_exit ?_
   refine c_exit ?_
   refine b_hit ?_
   refine fin0  rfl ?_
   rw [← h1]
   exact ⟨rfl, H⟩
theorem zStableF (p c n : Nat) (rs : List Value) (l0 : List Q) (w : World) (hE : Ents [prow p l0 rs 132] w) (hl0 : l0.length = n) (hn : n ≤ 100000) (hA : St.Asc l0) (hb : Bd l0) :
  Calls Try.prog 95 [.slice (some ⟨p, 0, none⟩) n c, cmpF].toArray w fun e w' => e = .returned (.tuple #[]) ∧ Heap w (ids [prow p l0 rs 132]) [prow p (St.ps l0) rs 132] w' := by
 have H := Heap.start hE
 have hS := fun {W : World} hE => zStable p c n rs l0 W hE hl0 hn hA hb
 generalize hI : ids [prow p l0 rs 132] = I at *
 refine k_in (N := 9) Try.func95 rfl rfl rfl ?_
 refine k_rg ?_
 refine s_run rfl rfl (rms rfl) ?_
 refine s_run rfl rfl (rms rfl) ?_
 refine s_run rfl rfl (r_len rfl Try.underlying129) ?_
 refine s_run rfl rfl (r_mv (v := .func _ _ _) rfl) ?_
 refine s_call rfl (hS (H.oneP 0 rfl)) (ca126 rfl) ?_
 rintro e W1 ⟨rfl, H'⟩
 refine ⟨_, rfl, ?_⟩
 have H := H.atP 0 rfl (by rw [hI]; exact H'); clear H'; simp only [List.set_cons_zero] at H
 refine k_nil ?_
 refine fin0  rfl ?_
 exact ⟨rfl, H⟩
end Go.Proofs.Ytlakbclnilakbaa
end

section
namespace Go.Proofs.Ytlakbclnilakbaa
open Go.Shelf Go.Lib Go.Sort Go.RowKit
set_option maxRecDepth 100000
set_option maxHeartbeats 4000000
def laysSF_ren : Go.Shelf.Ren := ⟨fun | 6 => 124 | 15 => 84 | 14 => 147 | 28 => 109 | 29 => 110 | 20 => 148 | 21 => 157 | 22 => 158 | 23 => 159 | 24 => 160 | 25 => 161 | 26 => 162 | 27 => 163 | 46 => 166 | 47 => 129 | 48 => 130 | 49 => 167 | 50 => 168 | 57 => 172 | n => n, fun | 22 => 129 | 24 => 132 | 25 => 159 | 3 => 3 | 39 => 144 | 0 => 0 | 53 => 147 | 55 => 78 | 4 => 4 | 46 => 164 | 45 => 163 | 50 => 126 | 5 => 5 | 9 => 9 | 66 => 185 | 70 => 189 | 76 => 199 | 77 => 200 | n => n, fun | n => n⟩
theorem laysSF : Go.Proofs.SlLaysF0.n6 Try.prog laysSF_ren := {
  mixed := by kernel_rfl
  f6 := ⟨Try.f124.name, by decide, Try.func124.trans (congrArg some (by kernel_rfl))⟩
  f14 := ⟨Try.f147.name, by decide, Try.func147.trans (congrArg some (by kernel_rfl))⟩
  f15 := Try.func84.trans (congrArg some (by kernel_rfl))
  f20 := ⟨Try.f148.name, by decide, Try.func148.trans (congrArg some (by kernel_rfl))⟩
  f21 := ⟨Try.f157.name, by decide, Try.func157.trans (congrArg some (by kernel_rfl))⟩
  f22 := ⟨Try.f158.name, by decide, Try.func158.trans (congrArg some (by kernel_rfl))⟩
  f23 := ⟨Try.f159.name, by decide, Try.func159.trans (congrArg some (by kernel_rfl))⟩
  f24 := ⟨Try.f160.name, by decide, Try.func160.trans (congrArg some (by kernel_rfl))⟩
  f25 := ⟨Try.f161.name, by decide, Try.func161.trans (congrArg some (by kernel_rfl))⟩
  f26 := ⟨Try.f162.name, by decide, Try.func162.trans (congrArg some (by kernel_rfl))⟩
  f27 := ⟨Try.f163.name, by decide, Try.func163.trans (congrArg some (by kernel_rfl))⟩
  f28 := Try.func109.trans (congrArg some (by kernel_rfl))
  f29 := Try.func110.trans (congrArg some (by kernel_rfl))
  f46 := ⟨Try.f166.name, by decide, Try.func166.trans (congrArg some (by kernel_rfl))⟩
  f47 := Try.func129.trans (congrArg some (by kernel_rfl))
  f48 := Try.func130.trans (congrArg some (by kernel_rfl))
  f49 := ⟨Try.f167.name, by decide, Try.func167.trans (congrArg some (by kernel_rfl))⟩
  f50 := ⟨Try.f168.name, by decide, Try.func168.trans (congrArg some (by kernel_rfl))⟩
  f57 := ⟨Try.f172.name, by decide, Try.func172.trans (congrArg some (by kernel_rfl))⟩
  t0 := Try.underlying0
  a0 := Try.isAgg0
  z0 := Try.sizeOf0
  v0 := Try.zeroValue0
  t3 := Try.underlying3
  a3 := Try.isAgg3
  z3 := Try.sizeOf3
  v3 := Try.zeroValue3
  t4 := Try.underlying4
  a4 := Try.isAgg4
  z4 := Try.sizeOf4
  v4 := Try.zeroValue4
  t5 := Try.underlying5
  a5 := Try.isAgg5
  z5 := Try.sizeOf5
  v5 := Try.zeroValue5
  t9 := Try.underlying9
  a9 := Try.isAgg9
  z9 := Try.sizeOf9
  v9 := Try.zeroValue9
  t22 := Try.underlying129
  a22 := Try.isAgg129
  z22 := Try.sizeOf129
  v22 := Try.zeroValue129
  t25 := Try.underlying159
  a25 := Try.isAgg159
  z25 := Try.sizeOf159
  v25 := Try.zeroValue159
  t39 := Try.underlying144
  a39 := Try.isAgg144
  z39 := Try.sizeOf144
  v39 := Try.zeroValue144
  t45 := Try.underlying163
  a45 := Try.isAgg163
  z45 := Try.sizeOf163
  v45 := Try.zeroValue163
  t46 := Try.underlying164
  a46 := Try.isAgg164
  z46 := Try.sizeOf164
  v46 := Try.zeroValue164
  t50 := Try.underlying126
  a50 := Try.isAgg126
  z50 := Try.sizeOf126
  v50 := Try.zeroValue126
  t53 := Try.underlying147
  a53 := Try.isAgg147
  z53 := Try.sizeOf147
  v53 := Try.zeroValue147
  t55 := Try.underlying78
  a55 := Try.isAgg78
  z55 := Try.sizeOf78
  v55 := Try.zeroValue78
  t66 := Try.underlying185
  a66 := Try.isAgg185
  z66 := Try.sizeOf185
  v66 := Try.zeroValue185
  t70 := Try.underlying189
  a70 := Try.isAgg189
  z70 := Try.sizeOf189
  v70 := Try.zeroValue189
  t76 := Try.underlying199
  a76 := Try.isAgg199
  z76 := Try.sizeOf199
  v76 := Try.zeroValue199
  t77 := Try.underlying200
  a77 := Try.isAgg200
  z77 := Try.sizeOf200
  v77 := Try.zeroValue200 }
abbrev PQ2 := {q : St.Q // 0 ≤ q.1 ∧ q.1 ≤ 1099511627776}
instance : Inhabited PQ2 := ⟨⟨(0, 0), by decide⟩⟩
def encP (x : PQ2) : List Value := [.int .i64 x.1.1, .int .i64 x.1.2]
def cfP (x y : PQ2) : Int := x.1.1 - y.1.1
theorem ltP (x y : PQ2) : ltOf cfP x y = decide (x.1.1 < y.1.1) := by
 unfold ltOf cfP
 rw [decide_eq_decide]; omega
theorem swoP : SWO (ltOf cfP) where
 irrefl x := by rw [ltP]; simp
 trans x y z h1 h2 := by rw [ltP] at *; simp at *; omega
 ntrans x y z h1 h2 := by rw [ltP] at *; simp at *; omega
theorem zCmpA (x y : PQ2) (W : World) : Calls Try.prog 125 #[.agg #[.int .i64 x.1.1, .int .i64 x.1.2], .agg #[.int .i64 y.1.1, .int .i64 y.1.2]] W fun e w' => e = .returned (.int .i64 (cfP x y)) ∧ ∃ q os', w' = grow (W.drewN q) os' := by
 have hw : IntKind.i64.wrap (x.1.1 - y.1.1) = x.1.1 - y.1.1 := wI (by have := x.2; have := y.2; omega)
 have hc : cfP x y = x.1.1 - y.1.1 := rfl
 rw [hc]
 generalize x.1.1 = a at *
 generalize y.1.1 = b at *
 generalize x.1.2 = c at *
 generalize y.1.2 = d at *
 go_enter Try.func125, Try.ntmps125
 go_wp2_with fail
 go_ret
 exact ⟨rfl, 0, _, by rw [alloc_eq_grow, alloc_eq_grow, grow_grow]; rfl⟩
theorem heap_sortedV {w : World} {g n : Nat} {os : Array Obj} {cur : Array Value} {e : TypeId} {fr : Nat × Nat} (d : Array Value) (hb : w.heap[g]? = some (.cells cur e fr)) :
  (grow (putRow id (Sort.ahead w n) g 0 d) os).heap[g]? = some (.cells (putCells id 0 d cur) e fr) := by
 have hg : g < w.heap.size := (Array.getElem?_eq_some_iff.1 hb).1
 rw [heap_grow_old _ _ (by simpa using hg)]
 simp [putRow, mapBlock, Sort.ahead, Array.getElem?_modify, hb, onCells]
theorem grownBy_sortedV {w : World} {g n : Nat} {os : Array Obj} (d : Array Value) : w.grownBy (grow (putRow id (Sort.ahead w n) g 0 d) os) (some g) := by
 refine ⟨rfl, rfl, rfl, by simp, fun k hk hne => ?_⟩
 rw [heap_grow_old _ _ (by simpa using hk)]
 have : g ≠ k := fun e => hne (by rw [e])
 simp [putRow, mapBlock, Sort.ahead, Array.getElem?_modify, this]
theorem put_all (cur : Array Value) (ts : List Value) (h : ts.length ≤ cur.size) : (putCells id 0 ts.toArray cur).toList = ts ++ cur.toList.drop ts.length := by
 apply List.ext_getElem?
 intro j
 rw [Array.getElem?_toList]
 by_cases hj : j < ts.length
 ·rw [List.getElem?_append_left hj]
  simp [putCells, hj, show j < cur.size by omega]
 ·rw [List.getElem?_append_right (by omega), List.getElem?_drop, show ts.length + (j - ts.length) = j by omega]
  simp [putCells, hj]
theorem flat_pc (d : Array PQ2) : (flatK encP 2 d).toList = pc (d.toList.map Subtype.val) := by
 apply List.ext_getElem?
 intro t
 have hl : (pc (d.toList.map Subtype.val)).length = d.size * 2 := by rw [pc_len, List.length_map, Array.length_toList]
 by_cases ht : t < d.size * 2
 ·have h1 := get_flatK encP 2 d t ht
  have h2 : (flatK encP 2 d).toList[t]? = some (flatK encP 2 d)[t]! := by
   rw [Array.getElem?_toList, getElem!_pos _ t (by simpa using ht), Array.getElem?_eq_getElem (by simpa using ht)]
  rw [h2, h1]
  have hq : (d.toList.map Subtype.val)[t / 2]? = some (d[t / 2]!).1 := by
   rw [List.getElem?_map, Array.getElem?_toList, getElem!_pos _ (t / 2) (by omega), Array.getElem?_eq_getElem (by omega)]; rfl
  have hp := pc_part (rest := []) hq
  rw [List.append_nil] at hp
  rcases (by omega : t % 2 = 0 ∨ t % 2 = 1) with e | e
  ·have h3 := congrArg (fun l => l[0]?) hp
   simp only [List.getElem?_take_of_lt (show 0 < 2 by omega), List.getElem?_drop] at h3
   rw [show t / 2 * 2 + 0 = t by omega] at h3
   rw [h3, e]; rfl
  ·have h3 := congrArg (fun l => l[1]?) hp
   simp only [List.getElem?_take_of_lt (show 1 < 2 by omega), List.getElem?_drop] at h3
   rw [show t / 2 * 2 + 1 = t by omega] at h3
   rw [h3, e]; rfl
 ·rw [List.getElem?_eq_none (by rw [Array.length_toList, size_flatK]; omega), List.getElem?_eq_none (by omega)]
theorem zSortF (g c n : Nat) (l : List St.Q) (w : World) (hE : Ents [ownN 2 (.slice (some ⟨g, 0, none⟩) n c) n (pc l) 132] w) (hl : l.length = n) (hn : n ≤ 1000000) (hb : ∀ q ∈ l, 0 ≤ q.1 ∧ q.1 ≤ 1099511627776) :
  Calls Try.prog 124 [.slice (some ⟨g, 0, none⟩) n c, .func (.func 125) #[] #[]].toArray w fun e w' => e = .returned (.tuple #[]) ∧ ∃ l' rs, l'.Perm l ∧ (l'.Pairwise fun x y => x.1 ≤ y.1) ∧ Heap w (ids [ownN 2 (.slice (some ⟨g, 0, none⟩) n c) n (pc l) 132]) [prow g l' rs 132] w' := by
 have H := Heap.start hE
 have ho := H.own_get 0 rfl
 rcases ho.2 with ⟨hv, h0⟩ | ⟨g2, cap, cur, hv, _, hg, hnc, hcm, hcs, htk⟩
 ·cases hv
 injection hv with h1 h2 h3
 injection h1 with h1
 injection h1 with h1
 subst h1; subst h3
 obtain ⟨dl, hdl⟩ : ∃ dl : List PQ2, dl.map Subtype.val = l := ⟨l.attach.map fun x => ⟨x.1, hb x.1 x.2⟩, by rw [List.map_map]; exact List.attach_map_subtype_val l⟩
 have hds : dl.length = n := by rw [← hl, ← hdl, List.length_map]
 have hfl : (flatK encP 2 dl.toArray).toList = pc l := by rw [flat_pc]; simp [hdl]
 have hH : HoldsK encP 2 w g 0 dl.toArray := by
  intro j hj
  rw [size_flatK, List.size_toArray, hds] at hj
  refine ⟨?_, by simp [World.frozen?, hg]⟩
  have e1 : (flatK encP 2 dl.toArray)[j]! = (pc l).getD j default := by
   rw [← hfl, getElem!_pos _ j (by rw [size_flatK, List.size_toArray, hds]; exact hj)]
   rw [List.getD_eq_getElem?_getD, Array.getElem?_toList, Array.getElem?_eq_getElem (by rw [size_flatK, List.size_toArray, hds]; exact hj)]; rfl
  have hpl : (pc l).length = n * 2 := by rw [pc_len, hl]
  rw [Joins.cell_of_block hg, Nat.zero_add, e1]
  have h4 : (cur.toList.take (n * 2))[j]? = (pc l)[j]? := by rw [htk]
  rw [List.getElem?_take_of_lt hj, Array.getElem?_toList] at h4
  rw [h4, List.getD_eq_getElem?_getD, List.getElem?_eq_getElem (by omega)]; rfl
 have hcon := AnyQ.slices_SortFunc laysSF 2 ag132 sz132 encP (fun _ => rfl) (fun x v hv => by simp [encP] at hv; rcases hv with rfl | rfl <;> rfl) cfP swoP 125 #[] g 0 c dl.toArray w (enters_of Try.func125 (by kernel_rfl) rfl) (fun _ _ _ _ x y => zCmpA x y _) hH (arr_lt hg) (by rw [List.size_toArray]; omega)
 rw [List.size_toArray, hds] at hcon
 refine Calls.mono hcon ?_
 rintro e w' ⟨rfl, d', m, os, hp, hs, rfl⟩
 obtain ⟨hp1, _, hp3⟩ := hp
 have hp1 : d'.size = n := by rw [← hds]; simpa using hp1
 have hperm : (d'.toList.map Subtype.val).Perm l := by
  have h4 : (d'.extract 0 n).toList = d'.toList := by rw [← hp1, Array.extract_size]
  have h5 : (dl.toArray.extract 0 n).toList = dl := by
   have : dl.toArray.size = n := by rw [List.size_toArray, hds]
   rw [← this, Array.extract_size]
  rw [h4, h5] at hp3
  rw [← hdl]
  exact hp3.map _
 have hlen : (d'.toList.map Subtype.val).length = n := by rw [hperm.length_eq, hl]
 refine ⟨rfl, d'.toList.map Subtype.val, cur.toList.drop (n * 2), hperm, ?_, H.at 0 rfl (F' := [g]) ⟨?_, by simp [ids, prow, blk], by simp [ids, prow, blk], ?_⟩ (by simp [ownN, Value.ownBlock])⟩
 ·rw [List.pairwise_iff_getElem]
  intro i j hi hj hij
  rw [hlen] at hi hj
  have h6 := hs i j (Nat.zero_le _) hij (by omega)
  rw [ltP] at h6
  have h7 := of_decide_eq_false h6
  rw [getElem!_pos d' i (by omega), getElem!_pos d' j (by omega)] at h7
  simp only [List.getElem_map, Array.getElem_toList]
  omega
 ·intro E hE
  rw [List.mem_singleton.1 hE]
  have h8 := heap_sortedV (w := w) (n := m) (os := os) (flatK encP 2 d') hg
  show (grow (putRow id (Sort.ahead w m) g 0 (flatK encP 2 d')) os).heap[g]? = some (.cells (pc (d'.toList.map Subtype.val) ++ cur.toList.drop (n * 2)).toArray 132 (0, 0))
  rw [h8]
  have h9 : (putCells id 0 (flatK encP 2 d') cur).toList = pc (d'.toList.map Subtype.val) ++ cur.toList.drop (n * 2) := by
   have h10 := put_all cur (flatK encP 2 d').toList (by rw [flat_pc, pc_len, hlen]; omega)
   rw [Array.toArray_toList] at h10
   rw [h10, flat_pc, pc_len, hlen]
  rw [← h9, Array.toArray_toList]
 ·have hgr : w.grownBy (grow (putRow id (Sort.ahead w m) g 0 (flatK encP 2 d')) os) (some g) := grownBy_sortedV _
  exact ⟨hgr.os, hgr.tape, hgr.output, hgr.size, fun k hk hne => hgr.block k hk (fun e => hne (by injection e with e; rw [e]; simp))⟩
end Go.Proofs.Ytlakbclnilakbaa
end

section
namespace Go.Proofs.Ytlakbclnilakbaa
open Go.RowKit
set_option maxRecDepth 100000
set_option maxHeartbeats 4000000
open St (Q)
theorem zSort0 (c : Nat) (fv : Value) (w : World) : Calls Try.prog 124 [.slice none 0 c, fv].toArray w fun e w' => e = .returned (.tuple #[]) ∧ w' = w :=
 AnyF.slices_SortFunc_none laysSF none c fv w
theorem zStable0 (w : World) : Calls Try.prog 95 [.slice none 0 0, cmpF].toArray w fun e w' => e = .returned (.tuple #[]) ∧ Only [] w w' := by
 have hI : ∀ W, Calls Try.prog 148 [.slice none 0 0, .int .i64 0, .int .i64 0, cmpF].toArray W fun e w' => e = .returned (.tuple #[]) ∧ Only [] W w' := fun W => by
  have H := Heap.nil W
  refine k_in (N := 53) Try.func148 rfl rfl rfl ?_
  refine k_sg ?_
  refine s_run rfl rfl (rmi rfl) ?_
  refine s_run rfl rfl (r_add rfl rfl (wI (by omega))) ?_
  refine s_run rfl rfl (rai rfl) ?_
  refine k_nc ?_
  refine k_b ?_
  refine k_loop (fun z f V => f 2 = .int .i64 0 ∧ f 8 = .int .i64 1 ∧ Heap W [] [] V) 0 ⟨rfl, rfl, H⟩ ?_
  clear H
  rintro z f V ⟨f2, f8, H⟩
  obtain ⟨f, rfl⟩ := live2 f2 f8
  clear f2 f8
  refine k_seq ?_
  refine k_sg ?_
  refine s_run rfl rfl (rmi rfl) ?_
  refine s_run rfl rfl (rmi rfl) ?_
  refine s_run rfl rfl (r_lssF rfl rfl (by omega)) ?_
  refine k_nc ?_
  refine k_f rfl ?_
  refine k_exit ?_
  refine c_exit ?_
  refine c_exit ?_
  refine b_hit ?_
  refine fin0  rfl ?_
  exact ⟨rfl, H.only⟩
 have hM : ∀ W, Calls Try.prog 126 [.slice none 0 0, .int .i64 0, cmpF].toArray W fun e w' => e = .returned (.tuple #[]) ∧ Only [] W w' := fun W => by
  have H := Heap.nil W
  refine k_in (N := 63) Try.func126 rfl rfl rfl ?_
  refine k_sg ?_
  refine s_run rfl rfl (rai rfl) ?_
  refine k_nc ?_
  refine k_sg ?_
  refine s_run rfl rfl (rmi rfl) ?_
  refine s_run rfl rfl (rai rfl) ?_
  refine s_run rfl rfl (rai rfl) ?_
  refine k_nc ?_
  refine k_seq ?_
  refine k_b ?_
  refine k_loop (fun z f V => f 0 = .slice none 0 0 ∧ f 1 = .int .i64 0 ∧ f 2 = cmpF ∧ f 6 = .int .i64 20 ∧ f 7 = .int .i64 0 ∧ f 8 = .int .i64 20 ∧ Heap W [] [] V) 0 ⟨rfl, rfl, rfl, rfl, rfl, rfl, H⟩ ?_
  clear H
  rintro z f V ⟨f0, f1, f2, f6, f7, f8, H⟩
  obtain ⟨f, rfl⟩ := live6 f0 f1 f2 f6 f7 f8
  clear f0 f1 f2 f6 f7 f8
  refine k_seq ?_
  refine k_sg ?_
  refine s_run rfl rfl (rmi rfl) ?_
  refine s_run rfl rfl (rmi rfl) ?_
  refine s_run rfl rfl (r_leqF rfl rfl (by omega)) ?_
  refine k_nc ?_
  refine k_f rfl ?_
  refine k_exit ?_
  refine c_exit ?_
  refine c_exit ?_
  refine b_hit ?_
  refine c_norm ?_
  refine k_sg ?_
  refine s_run rfl rfl (rms rfl) ?_
  refine s_run rfl rfl (rmi rfl) ?_
  refine s_run rfl rfl (rmi rfl) ?_
  refine s_run rfl rfl (r_mv (v := .func _ _ _) rfl) ?_
  refine s_call rfl (hI _) (ca148 rfl) ?_
  rintro e W1 ⟨rfl, H'⟩
  refine ⟨_, rfl, ?_⟩
  have H := H.same H'; clear H'
  refine k_nc ?_
  refine k_b ?_
  refine k_loop (fun z f V => f 1 = .int .i64 0 ∧ f 6 = .int .i64 20 ∧ Heap W [] [] V) 0 ⟨rfl, rfl, H⟩ ?_
  clear H
  rintro z f V ⟨f1, f6, H⟩
  obtain ⟨f, rfl⟩ := live2 f1 f6
  clear f1 f6
  refine k_seq ?_
  refine k_sg ?_
  refine s_run rfl rfl (rmi rfl) ?_
  refine s_run rfl rfl (rmi rfl) ?_
  refine s_run rfl rfl (r_lssF rfl rfl (by omega)) ?_
  refine k_nc ?_
  refine k_f rfl ?_
  refine k_exit ?_
  refine c_exit ?_
  refine c_exit ?_
  refine b_hit ?_
  refine fin0  rfl ?_
  exact ⟨rfl, H.only⟩
 have H := Heap.nil w
 refine k_in (N := 9) Try.func95 rfl rfl rfl ?_
 refine k_rg ?_
 refine s_run rfl rfl (rms rfl) ?_
 refine s_run rfl rfl (rms rfl) ?_
 refine s_run rfl rfl (r_len rfl Try.underlying129) ?_
 refine s_run rfl rfl (r_mv (v := .func _ _ _) rfl) ?_
 refine s_call rfl (hM _) (ca126 rfl) ?_
 rintro e W1 ⟨rfl, H'⟩
 refine ⟨_, rfl, ?_⟩
 have H := H.same H'; clear H'
 refine k_nil ?_
 refine fin0  rfl ?_
 exact ⟨rfl, H.only⟩
def flq (l : List Q) : List Int := l.flatMap fun q => [q.1, q.2]
theorem flq_pc (l : List Q) : (flq l).map (Value.int .i64) = pc l := by
 unfold flq pc
 rw [List.map_flatMap]; rfl
theorem flq_snoc (l : List Q) (q : Q) : flq l ++ [q.1, q.2] = flq (l ++ [q]) := by simp [flq]
/-- a row of pairs, of its own or nil -/
def RowP (W0 W : World) (A : Option Addr) (c : Nat) (l : List Q) : Prop := (A = none ∧ c = 0 ∧ l = [] ∧ Only [] W0 W) ∨ ∃ g rs, A = some ⟨g, 0, none⟩ ∧ l.length ≤ c ∧ Heap W0 [] [prow g l rs 132] W
section
variable {p b c : Nat} {A : Option Addr} {nc nb nd : Int} {dead : List Int} {ages : List (Int × Int)} {w : World}
theorem cAll (hE : Ents (cnE p b A c nc nb nd ages dead) w) (hn : ages.length ≤ 100000) (hk : ∀ x ∈ ages, 0 ≤ x.1 ∧ x.1 ≤ 1099511627776) :
  Calls Try.prog 94 [ptrC p].toArray w fun e w' => ∃ A' c' l, e = .returned (.slice A' l.length c') ∧ l.Perm ages ∧ (l.Pairwise fun x y => x.1 ≤ y.1) ∧ RowP w w' A' c' l := by
 obtain ⟨es, clock, M⟩ := hE.map_at 1 rfl
 have HR := Heap.ungrp (Heap.start hE)
 have H := Heap.nil w
 unfold lvE at HR
 generalize ids _ = I at *
 refine k_in (N := 25) Try.func94 rfl rfl rfl ?_
 refine k_sg ?_
 refine s_run rfl rfl (ras rfl) ?_
 refine k_nc ?_
 refine k_sg ?_
 refine s_run rfl rfl (ras rfl) ?_
 refine k_nc ?_
 refine k_seq ?_
 refine k_sg ?_
 refine s_run rfl rfl (rmp rfl) ?_
 refine s_run rfl rfl (r_nc rfl) ?_
 refine s_run rfl rfl (r_fa0 rfl fo125_0) ?_
 refine s_run rfl rfl (r_lo (HR.same H.only) 0 rfl rfl rfl ag123) ?_
 refine s_rmR M H rfl rfl Try.underlying123 ?_
 intro r _ H'; clear H; have H := H'; clear H'
 refine k_nc ?_
 refine k_b ?_
 replace H := H.own_nil 2 132
 refine k_loop (fun z f W => ∃ (lb : List ((Int × Int) × Bool)) (cur : Option (Int × Int)) (OA : Option Addr) (co : Nat) (out : List Q), z = (mleft lb).length ∧ lb.map (·.1) = ages ∧ (out ++ mleft lb).Perm ages ∧ f 3 = .slice OA out.length co ∧ f 10 = ptrC r ∧ Heap w [] [ownN 2 (.slice OA out.length co) out.length ((flq out).map (Value.int .i64)) 132, mri kC (Value.int .i64) es clock b r lb cur] W) _ ⟨ages.map fun p => (p, true), none, none, 0, [], rfl, cIter_start _, by rw [mleft_all]; exact List.Perm.refl _, rfl, rfl, H⟩ ?_
 clear H
 rintro z f W ⟨lb, cur, OA, co, out, rfl, hlb, hpm, f3, f10, H⟩
 obtain ⟨f, rfl⟩ := live2 f3 f10
 clear f3 f10
 have hol : out.length ≤ 100000 := by have := hpm.length_eq; simp at this; omega
 by_cases hl : mleft lb = []
 ·rw [hl, List.append_nil] at hpm
  have H0 : Heap w [] [ownN 2 (.slice OA out.length co) out.length ((flq out).map (Value.int .i64)) 132] W := (H : Heap w [] ([_] ++ [_]) _).drops
  rcases (H0.own_get 0 rfl).2 with ⟨hv, h0⟩ | ⟨g, cap, cur2, hv, _, hg, hnc, _⟩
  ·injection hv with h1 h2 h3
   subst h1; subst h3
   obtain rfl : out = [] := List.eq_nil_of_length_eq_zero h0
   refine k_sg ?_
   refine s_nx0R M H 1 (hl) rfl rfl rfl ?_
   refine s_run rfl rfl (r_ext (v := .bool _) rfl rfl) ?_
   refine k_nc ?_
   refine k_seq ?_
   refine k_f rfl ?_
   refine k_exit ?_
   refine c_exit ?_
   refine c_exit ?_
   refine b_hit ?_
   refine c_norm ?_
   refine k_sg ?_
   refine s_run rfl rfl (rms rfl) ?_
   refine s_call rfl (zSort0 _ _ _) (ca124 rfl) ?_
   rintro e W1 ⟨rfl, rfl⟩
   refine ⟨_, rfl, ?_⟩
   skip
   refine k_nc ?_
   refine k_sg ?_
   refine s_run rfl rfl (rms rfl) ?_
   refine s_run rfl rfl (ras rfl) ?_
   refine k_nc ?_
   refine k_ret ?_
   refine fin1r (v := .slice _ _ _) rfl rfl ?_
   exact ⟨none, 0, [], rfl, hpm, List.Pairwise.nil, .inl ⟨rfl, rfl, rfl, H.only⟩⟩
  ·injection hv with h1 h2 h3
   subst h1; subst h3
   have hS := fun {W : World} hE => zSortF g co out.length out W hE rfl (by omega) fun q hq => hk q (hpm.subset hq)
   rw [← flq_pc] at hS
   refine k_sg ?_
   refine s_nx0R M H 1 (hl) rfl rfl rfl ?_
   refine s_run rfl rfl (r_ext (v := .bool _) rfl rfl) ?_
   refine k_nc ?_
   refine k_seq ?_
   refine k_f rfl ?_
   refine k_exit ?_
   refine c_exit ?_
   refine c_exit ?_
   refine b_hit ?_
   refine c_norm ?_
   refine k_sg ?_
   refine s_run rfl rfl (rms rfl) ?_
   refine s_call rfl (hS (H.oneP 0 rfl)) (ca124 rfl) ?_
   rintro e W1 ⟨rfl, l', rs, hp1, hp2, H'⟩
   refine ⟨_, rfl, ?_⟩
   have H := H.atP 0 rfl H'; clear H'; simp only [List.set_cons_zero] at H
   refine k_nc ?_
   refine k_sg ?_
   refine s_run rfl rfl (rms rfl) ?_
   refine s_run rfl rfl (ras rfl) ?_
   refine k_nc ?_
   refine k_ret ?_
   refine fin1r (v := .slice _ _ _) rfl rfl ?_
   rw [← hp1.length_eq]
   exact ⟨_, co, l', rfl, hp1.trans hpm, hp2, .inr ⟨g, rs, rfl, by rw [hp1.length_eq]; exact hnc, (H : Heap w [] ([_] ++ [_]) _).drops⟩⟩
 ·refine k_sg ?_
  refine s_nx1R M H 1 (hl) rfl rfl rfl ?_
  intro j q _ hq gq H'; simp only [List.set_cons_zero, List.set_cons_succ, List.take_succ_cons, List.take_zero, List.drop_succ_cons, List.drop_zero, List.cons_append, List.nil_append, List.append_nil, List.length_cons, List.length_nil, Nat.reduceAdd] at H'; clear H; have H := H'; clear H'
  refine s_run rfl rfl (r_ext (v := .bool _) rfl rfl) ?_
  refine k_nc ?_
  refine k_seq ?_
  refine k_t rfl ?_
  refine k_skip ?_
  refine c_norm ?_
  refine k_b ?_
  refine k_sg ?_
  refine s_run rfl rfl (r_enR M H 1 rfl rfl) ?_
  refine s_run rfl rfl (r_ext (v := .int _ _) rfl rfl) ?_
  refine s_run rfl rfl (r_ext (v := .int _ _) rfl rfl) ?_
  refine s_run rfl rfl (rai rfl) ?_
  refine s_run rfl rfl (rai rfl) ?_
  refine k_nc ?_
  refine k_rg ?_
  refine s_run rfl rfl (rms rfl) ?_
  refine s_run rfl rfl (rmi rfl) ?_
  refine s_run rfl rfl (rmi rfl) ?_
  refine s_run rfl rfl (r_bd (bd132_0_1 _ _) rfl) ?_
  refine s_bsN (enc := (Value.int .i64)) (size := 2) (zs := [q.1, q.2]) H rfl rfl rfl (by omega) (by kernel_rfl) Try.underlying129 inf132 ?_
  intro q20 _ H'; clear H; have H := H'; clear H'
  refine s_apB (enc := (Value.int .i64)) (size := 2) H 0 rfl rfl rfl rfl (fun _ => rfl) (by omega) (by omega) Try.underlying129 inf132 rfl ?_
  intro A2 c2 _ H'; simp only [List.set_cons_zero, List.set_cons_succ, List.take_succ_cons, List.take_zero, List.drop_succ_cons, List.drop_zero, List.cons_append, List.nil_append, List.append_nil, List.length_cons, List.length_nil, Nat.reduceAdd] at H'; clear H; have H := H'; clear H'
  refine s_run rfl rfl (ras rfl) ?_
  refine k_nil ?_
  refine b_norm ?_
  refine c_round ?_
  have hfs := mset_fstG hq
  have hml := cLeft_len hq
  have hp := mleft_set lb j q hq
  rw [flq_snoc] at H
  have hpm2 : ((out ++ [q]) ++ mleft (lb.set j (q, false))).Perm ages := by
   rw [List.append_assoc]
   exact (List.Perm.append_left out hp.symm).trans hpm
  have hl2 : (out ++ [q]).length = out.length + 1 := by simp
  refine ⟨_, _, ?_, rfl, lb.set j (q, false), some q, A2, c2, out ++ [q], rfl, by rw [hfs]; exact hlb, hpm2, by rw [hl2]; rfl, rfl, by rw [hl2]; exact H⟩
  omega
theorem cOldest (hE : Ents (cnE p b A c nc nb nd ages dead) w) (hn : ages.length ≤ 100000) (hk : ∀ x ∈ ages, 0 ≤ x.1 ∧ x.1 ≤ 1099511627776) (hb : ∀ x ∈ ages, 0 ≤ x.2 ∧ x.2 ≤ 1099511627776) (most : Int) :
  Calls Try.prog 73 [ptrC p, .int .i64 most].toArray w fun e w' => ∃ A' c' l, e = .returned (.slice A' (max 0 (min most ages.length)).toNat c') ∧ l = St.ps ages ∧ RowP w w' A' c' l := by
 have H := Heap.nil w
 obtain ⟨t, ht⟩ : ∃ t : Nat, max 0 (min most ages.length) = (t : Int) := ⟨(max 0 (min most ages.length)).toNat, by omega⟩
 rw [ht, Int.toNat_natCast]
 refine k_in (N := 17) Try.func73 rfl rfl rfl ?_
 refine k_sg ?_
 refine s_run rfl rfl (ras rfl) ?_
 refine k_nc ?_
 refine k_sg ?_
 refine s_run rfl rfl (rmp rfl) ?_
 refine s_call rfl (cAll hE hn hk) (ca94 rfl) ?_
 rintro e W1 ⟨A1, c', l, rfl, hp, hs, hR⟩
 refine ⟨_, rfl, ?_⟩
 skip
 refine s_run rfl rfl (ras rfl) ?_
 refine k_nc ?_
 refine k_seq ?_
 have hlen := hp.length_eq
 have hpp : St.ps l = St.ps ages := St.ps_of ((St.ps_perm l).trans hp) (St.ps_sorted l)
 have hlt : t ≤ l.length := by omega
 obtain ⟨m, hm⟩ : ∃ m : Int, min most (l.length : Int) = m := ⟨_, rfl⟩
 have hmx : max 0 m = (t : Int) := by rw [← hm, hlen]; exact ht
 rcases hR with ⟨rfl, rfl, rfl, hO⟩ | ⟨g, rs, rfl, hcap, H1⟩
 ·have h00 : t = 0 := by simpa using hlt
  subst h00
  clear H
  have H := Heap.nil w
  replace H := H.same hO
  refine k_rg ?_
  refine s_run rfl rfl (rms rfl) ?_
  refine s_call rfl (zStable0 _) (ca95 rfl) ?_
  rintro e W1 ⟨rfl, H'⟩
  refine ⟨_, rfl, ?_⟩
  have H := H.same H'; clear H'
  refine k_nc ?_
  refine k_sg ?_
  refine s_run rfl rfl (rms rfl) ?_
  refine s_run rfl rfl (rmi rfl) ?_
  refine s_run rfl rfl (rms rfl) ?_
  refine s_run rfl rfl (r_len rfl Try.underlying129) ?_
  refine s_run rfl rfl (r_min (c := m) rfl rfl (by rw [← hm]; split <;> omega)) ?_
  refine s_run rfl rfl (r_max (c := ((0 : Nat) : Int)) rfl rfl (by rw [← hmx]; split <;> omega)) ?_
  refine s_run rfl rfl (r_shiA (j := 0) rfl rfl rfl (by omega) Try.underlying129 sz132) ?_
  refine s_run rfl rfl (ras rfl) ?_
  refine k_nc ?_
  refine k_ret ?_
  refine fin1r (v := .slice _ _ _) rfl rfl ?_
  exact ⟨none, 0, [], rfl, by rw [← hpp]; simp [St.ps], .inl ⟨rfl, rfl, rfl, H.only⟩⟩
 ·have hA : St.Asc l := hs.imp (fun {a b} (h : a.1 ≤ b.1) (_ : a.2 = b.2) => h)
  have hS := fun {W : World} hE => zStableF g c' l.length rs l W hE rfl (by omega) hA fun q hq => hb q (hp.subset hq)
  clear H
  have H := H1
  refine k_rg ?_
  refine s_run rfl rfl (rms rfl) ?_
  refine s_call rfl (hS (H.oneP 0 rfl)) (ca95 rfl) ?_
  rintro e W1 ⟨rfl, H'⟩
  refine ⟨_, rfl, ?_⟩
  have H := H.atP 0 rfl H'; clear H'; simp only [List.set_cons_zero] at H
  refine k_nc ?_
  refine k_sg ?_
  refine s_run rfl rfl (rms rfl) ?_
  refine s_run rfl rfl (rmi rfl) ?_
  refine s_run rfl rfl (rms rfl) ?_
  refine s_run rfl rfl (r_len rfl Try.underlying129) ?_
  refine s_run rfl rfl (r_min (c := m) rfl rfl (by rw [← hm]; split <;> omega)) ?_
  refine s_run rfl rfl (r_max (c := (t : Int)) rfl rfl (by rw [← hmx]; split <;> omega)) ?_
  refine s_run rfl rfl (r_shiA (j := t) rfl rfl rfl (by omega) Try.underlying129 sz132) ?_
  refine s_run rfl rfl (ras rfl) ?_
  refine k_nc ?_
  refine k_ret ?_
  refine fin1r (v := .slice _ _ _) rfl rfl ?_
  exact ⟨_, c', St.ps l, rfl, hpp, .inr ⟨g, rs, rfl, by rw [St.ps_len]; exact hcap, H⟩⟩
end
end Go.Proofs.Ytlakbclnilakbaa
end

section
namespace Go.Proofs.Ytlakbclnilakbaa
open Go.RowKit
set_option maxRecDepth 100000
set_option maxHeartbeats 8000000
def Cn.nstep (ages nw : List (Int × Int)) (a : Int) : List (Int × Int) := if (mget nw a).isSome then nw else nw ++ [(a, (mget ages a).getD 0 + 1)]
/-- all that there are now, with their ages -/
def Cn.now (ages : List (Int × Int)) (l : List Int) : List (Int × Int) := l.foldl (Cn.nstep ages) []
/-- those that are not there any more -/
def Cn.gone (nw : List (Int × Int)) (l : List (Int × Int)) : List (Int × Int) := l.filter fun p => (mget nw p.1).isNone
theorem Cn.now_snoc {ages : List (Int × Int)} {l : List Int} {i : Nat} {x : Int} (h : l[i]? = some x) : Cn.now ages (l.take (i + 1)) = Cn.nstep ages (Cn.now ages (l.take i)) x := by
 rw [← tk_snoc h]; unfold Cn.now; rw [List.foldl_append]; rfl
theorem Cn.mget_mem : ∀ {l : List (Int × Int)} {a v : Int}, mget l a = some v → (a, v) ∈ l
 | [], a, v, h => by cases h
 | x :: l, a, v, h => by
  rw [mget] at h
  split at h
  ·rename_i e
   injection h with h
   subst h
   rw [← e]
   simp
  ·exact List.mem_cons_of_mem _ (Cn.mget_mem h)
theorem live7C {f : Nat → Value} {k1 k2 k3 k4 k5 k6 k7 : Nat} {v1 v2 v3 v4 v5 v6 v7 : Value} (h1 : f k1 = v1) (h2 : f k2 = v2) (h3 : f k3 = v3) (h4 : f k4 = v4) (h5 : f k5 = v5) (h6 : f k6 = v6) (h7 : f k7 = v7) : ∃ g, f = upd (upd (upd (upd (upd (upd (upd g k1 v1) k2 v2) k3 v3) k4 v4) k5 v5) k6 v6) k7 v7 := ⟨f, by rw [upd_same h1, upd_same h2, upd_same h3, upd_same h4, upd_same h5, upd_same h6, upd_same h7]⟩
section
variable {p b c : Nat} {A : Option Addr} {nc nb nd : Int} {dead : List Int} {ages : List (Int × Int)} {w : World}
theorem cCount (hE : Ents (cnE p b A c nc nb nd ages dead) w) (hn : ages.length ≤ 10000) (hb : ∀ x ∈ ages, 0 ≤ x.2 ∧ x.2 ≤ 999) (hkd : ∀ x ∈ ages, 0 ≤ x.1 ∧ x.1 ≤ 1099511627776) (hd : ∀ x ∈ dead, 0 ≤ x ∧ x ≤ 1000) (hdl : dead.length ≤ 10000) (hnc : 0 ≤ nc ∧ nc ≤ 1000 ∧ 0 ≤ nb ∧ nb ≤ 1000000000 ∧ 0 ≤ nd ∧ nd ≤ 1000000000)
  (LA : Option Addr) (ln lc : Nat) (l : List Int) (hS : Sees (Value.int .i64) w [] LA l) (hl : l.length = ln) (hll : ln ≤ 1000) (hlb : ∀ x ∈ l, 0 ≤ x ∧ x ≤ 1099511627776) :
  Calls Try.prog 36 [ptrC p, .slice LA ln lc].toArray w fun e w' => ∃ (b' : Nat) (A' : Option Addr) (c' : Nat) (nb' nd' : Int) (DA : Option Addr) (dc : Nat) (BA : Option Addr) (bn bc : Nat) (dk : List (Int × Int)), e = .returned (.agg [.slice BA bn bc, .slice DA dk.length dc].toArray) ∧ dk.Perm (Cn.gone (Cn.now ages l) ages) ∧ nb' ≤ nb + 1000 ∧ nd' ≤ nd + 10000 ∧ 0 ≤ nb' ∧ 0 ≤ nd' ∧
   Heap w (ids (lvE p b A c nc nb nd dead)) (ownN 1 (.slice DA dk.length dc) dk.length ((srt (dk.map Prod.fst)).map (Value.int .i64)) 3 :: cnE p b' A' c' (nc + 1) nb' nd' (Cn.now ages l) (dead ++ dk.map Prod.snd)) w' := by
 obtain ⟨es, clock, M⟩ := hE.map_at 1 rfl
 have HR := Heap.ungrp (Heap.start hE)
 have hL : Ents [grp (lvE p b A c nc nb nd dead)] w := ⟨fun E hE' => hE.1 E (by rw [List.mem_singleton.1 hE']; simp [cnE]), by
  have := hE.2
  unfold cnE at this
  rw [ids_cons] at this
  simpa [ids] using (List.nodup_append.1 this).1⟩
 have hbI : b ∉ ids (lvE p b A c nc nb nd dead) := by
  have h1 := hE.2
  unfold cnE at h1
  rw [ids_cons] at h1
  have h2 := (List.nodup_append.1 h1).2.2
  exact fun h => h2 b h b (by simp [ids, mp]) rfl
 have H := Heap.nil w
 have hIe : ids [grp (lvE p b A c nc nb nd dead)] = ids (lvE p b A c nc nb nd dead) := by simp [ids, grp]
 have HL := Heap.start hL
 rw [hIe] at HL
 unfold lvE at HR
 generalize ids _ = I2 at HR
 generalize hI : ids (lvE p b A c nc nb nd dead) = I at *
 clear hIe
 refine k_in (N := 118) Try.func36 rfl rfl rfl ?_
 refine k_sg ?_
 refine s_al H rfl inf74 ?_
 intro p4 _ H'; clear H; have H := H'; clear H'
 refine k_nc ?_
 refine k_sg ?_
 refine s_mm kC (Value.int .i64) H rfl ?_
 intro b1 _ H'; clear H; have H := H'; clear H'
 refine s_run rfl rfl (r_as (v := .map _) rfl) ?_
 refine k_nc ?_
 refine k_sg ?_
 refine s_al H rfl inf74 ?_
 intro p6 _ H'; clear H; have H := H'; clear H'
 refine k_nc ?_
 refine k_seq ?_
 refine k_sg ?_
 refine s_run rfl rfl (rms rfl) ?_
 refine s_run rfl rfl (r_len rfl Try.underlying25) ?_
 refine s_run rfl rfl (rmi rfl) ?_
 refine k_nc ?_
 refine k_b ?_
 replace H := H.own_nil 1 3
 refine k_loop (fun z f W => ∃ (i : Nat) (BA : Option Addr) (bn bc : Nat) (born : List Int), i ≤ ln ∧ bn ≤ i ∧ z = ln - i ∧ f 0 = ptrC p ∧ f 4 = ptrC p4 ∧ f 5 = .map (some b1) ∧ f 6 = ptrC p6 ∧ f 18 = .slice LA ln lc ∧ f 19 = .int .i64 ln ∧ f 20 = .int .i64 i ∧ Heap w [] [ownN 1 (.slice BA bn bc) bn (born.map (Value.int .i64)) 3, blk p6 [.slice BA bn bc, .slice none 0 0] 74, mp kC (Value.int .i64) b1 (Cn.now ages (l.take i)), blk p4 [.slice none 0 0, .slice none 0 0] 74] W) ln ⟨0, none, 0, 0, [], by omega, by omega, rfl, rfl, rfl, rfl, rfl, rfl, rfl, rfl, H⟩ ?_
 clear H
 rintro z f W ⟨i, BA, bn, bc, born, hi, hbi, rfl, f0, f4, f5, f6, f18, f19, f20, H⟩
 obtain ⟨f, rfl⟩ := live7C f0 f4 f5 f6 f18 f19 f20
 clear f0 f4 f5 f6 f18 f19 f20
 by_cases hlt : i < ln
 ·obtain ⟨x, hx⟩ : ∃ x, l[i]? = some x := ⟨_, List.getElem?_eq_getElem (by omega)⟩
  have hxb := hlb x (List.mem_of_getElem? hx)
  obtain ⟨q, o, rfl, _, hrd⟩ := hS (by omega)
  have hc := hrd i _ hx
  have hns := Cn.now_snoc (ages := ages) hx
  have gda : kC.Gd x := ⟨by omega, by omega⟩
  generalize Cn.now ages (l.take i) = nw at *
  unfold Cn.nstep at hns
  cases hg : mget nw x with
  | some v =>
   rw [hg, Option.isSome_some, if_pos rfl] at hns
   refine k_sg ?_
   refine s_run rfl rfl (r_lssT rfl rfl (by omega)) ?_
   refine k_nc ?_
   refine k_seq ?_
   refine k_t rfl ?_
   refine k_skip ?_
   refine c_norm ?_
   refine k_seq ?_
   refine k_b ?_
   refine k_sg ?_
   refine s_run rfl rfl (r_ix1o (i := i) rfl rfl (by omega) (by omega) Try.underlying25 sz3) ?_
   refine s_run rfl rfl (r_lr H rfl hc (by simp) ag3) ?_
   refine s_run rfl rfl (rai rfl) ?_
   refine k_nc ?_
   refine k_seq ?_
   refine k_sg ?_
   refine s_run rfl rfl (r_mv (v := .map _) rfl) ?_
   refine s_run rfl rfl (rmi rfl) ?_
   refine s_run rfl rfl (r_loS H 2 rfl rfl rfl (gda) (hg) Try.underlying123 (zv_of inf3) rfl) ?_
   refine s_run rfl rfl (rmt rfl) ?_
   refine s_run rfl rfl (r_ext (v := .int _ _) rfl rfl) ?_
   refine s_run rfl rfl (r_ext (v := .bool _) rfl rfl) ?_
   refine s_run rfl rfl (rai rfl) ?_
   refine s_run rfl rfl (rab rfl) ?_
   refine k_nc ?_
   refine k_sg ?_
   refine s_run rfl rfl (rmb rfl) ?_
   refine k_nc ?_
   refine k_t rfl ?_
   refine k_exit ?_
   refine c_exit ?_
   refine b_hit ?_
   refine c_norm ?_
   refine k_rg ?_
   refine s_run rfl rfl (r_add rfl rfl (wI (by omega))) ?_
   refine s_run rfl rfl (rmi rfl) ?_
   refine k_nil ?_
   refine c_round ?_
   refine ⟨_, _, ?_, rfl, i + 1, BA, bn, bc, born, by omega, by omega, rfl, rfl, rfl, rfl, rfl, rfl, rfl, rfl, by rw [hns]; exact H⟩
   omega
  | none =>
   rw [hg, Option.isSome_none, if_neg (by simp)] at hns
   have hpn : ∀ v : Int, mput nw x v = nw ++ [(x, v)] := (m_none nw x ((mget_iff _ _).1 hg)).2.1
   cases hg2 : mget ages x with
   | none =>
    rw [hg2, Option.getD_none] at hns
    have hmp := hpn 1
    refine k_sg ?_
    refine s_run rfl rfl (r_lssT rfl rfl (by omega)) ?_
    refine k_nc ?_
    refine k_seq ?_
    refine k_t rfl ?_
    refine k_skip ?_
    refine c_norm ?_
    refine k_seq ?_
    refine k_b ?_
    refine k_sg ?_
    refine s_run rfl rfl (r_ix1o (i := i) rfl rfl (by omega) (by omega) Try.underlying25 sz3) ?_
    refine s_run rfl rfl (r_lr H rfl hc (by simp) ag3) ?_
    refine s_run rfl rfl (rai rfl) ?_
    refine k_nc ?_
    refine k_seq ?_
    refine k_sg ?_
    refine s_run rfl rfl (r_mv (v := .map _) rfl) ?_
    refine s_run rfl rfl (rmi rfl) ?_
    refine s_run rfl rfl (r_loN H 2 rfl rfl rfl (gda) (hg) Try.underlying123 (zv_of inf3)) ?_
    refine s_run rfl rfl (rmt rfl) ?_
    refine s_run rfl rfl (r_ext (v := .int _ _) rfl rfl) ?_
    refine s_run rfl rfl (r_ext (v := .bool _) rfl rfl) ?_
    refine s_run rfl rfl (rai rfl) ?_
    refine s_run rfl rfl (rab rfl) ?_
    refine k_nc ?_
    refine k_sg ?_
    refine s_run rfl rfl (rmb rfl) ?_
    refine k_nc ?_
    refine k_f rfl ?_
    refine k_skip ?_
    refine c_norm ?_
    refine k_sg ?_
    refine s_run rfl rfl (rmp rfl) ?_
    refine s_run rfl rfl (r_nc rfl) ?_
    refine s_run rfl rfl (r_fa0 rfl fo125_0) ?_
    refine s_run rfl rfl (r_lo (HR.same H.only) 0 rfl rfl rfl ag123) ?_
    refine s_run rfl rfl (rmi rfl) ?_
    refine s_run rfl rfl (r_loN (HR.same H.only) 2 rfl rfl rfl (gda) (hg2) Try.underlying123 (zv_of inf3)) ?_
    refine s_run rfl rfl (rmt rfl) ?_
    refine s_run rfl rfl (r_ext (v := .int _ _) rfl rfl) ?_
    refine s_run rfl rfl (r_ext (v := .bool _) rfl rfl) ?_
    refine s_run rfl rfl (rai rfl) ?_
    refine s_run rfl rfl (rab rfl) ?_
    refine k_nc ?_
    refine k_sg ?_
    refine s_run rfl rfl (r_mv (v := .map _) rfl) ?_
    refine s_run rfl rfl (rmi rfl) ?_
    refine s_run rfl rfl (rmi rfl) ?_
    refine s_run rfl rfl (r_add rfl rfl (wI (by omega))) ?_
    refine s_mu H 2 rfl rfl rfl rfl rfl (gda) Try.underlying123 ?_
    clear H; intro _ H; simp only [jA, jB, jC, jD, jE, jF, jG, jH, jI, jJ, jK, Nat.reduceAdd] at H
    refine k_nc ?_
    refine k_sg ?_
    refine s_run rfl rfl (rmb rfl) ?_
    refine s_run rfl rfl (r_notF rfl) ?_
    refine k_nc ?_
    refine k_t rfl ?_
    refine k_rg ?_
    refine s_run rfl rfl (r_fa0 rfl fo74_0) ?_
    refine s_run rfl rfl (r_lo H 1 rfl rfl rfl ag25) ?_
    refine s_run rfl rfl (rmi rfl) ?_
    refine s_app1 (enc := (Value.int .i64)) H 0 rfl rfl rfl rfl rfl rfl rfl (by omega) Try.underlying25 inf3 rfl ?_
    intro _ An cn _ H'; simp only [List.set_cons_zero, List.set_cons_succ, List.take_succ_cons, List.take_zero, List.drop_succ_cons, List.drop_zero, List.cons_append, List.nil_append, List.append_nil, List.length_cons, List.length_nil, Nat.reduceAdd] at H'; clear H; have H := H'; clear H'
    refine s_run rfl rfl (r_fa0 rfl fo74_0) ?_
    refine s_st (u := .slice _ _ _) H 1 rfl rfl rfl rfl rfl rfl sz25 ?_
    clear H; intro _ H; simp only [jA, jB, jC, jD, jE, jF, jG, jH, jI, jJ, jK, Nat.reduceAdd] at H
    refine k_nil ?_
    refine b_norm ?_
    refine c_norm ?_
    refine k_rg ?_
    refine s_run rfl rfl (r_add rfl rfl (wI (by omega))) ?_
    refine s_run rfl rfl (rmi rfl) ?_
    refine k_nil ?_
    refine c_round ?_
    rw [show (0 : Int) + 1 = 1 from rfl, hmp] at H
    refine ⟨_, _, ?_, rfl, i + 1, An, bn + 1, cn, born ++ [x], by omega, by omega, rfl, rfl, rfl, rfl, rfl, rfl, rfl, rfl, by rw [hns]; exact H⟩
    omega
   | some v =>
    rw [hg2, Option.getD_some] at hns
    have hvb : 0 ≤ v ∧ v ≤ 999 := hb _ (Cn.mget_mem hg2)
    have hmp := hpn (v + 1)
    refine k_sg ?_
    refine s_run rfl rfl (r_lssT rfl rfl (by omega)) ?_
    refine k_nc ?_
    refine k_seq ?_
    refine k_t rfl ?_
    refine k_skip ?_
    refine c_norm ?_
    refine k_seq ?_
    refine k_b ?_
    refine k_sg ?_
    refine s_run rfl rfl (r_ix1o (i := i) rfl rfl (by omega) (by omega) Try.underlying25 sz3) ?_
    refine s_run rfl rfl (r_lr H rfl hc (by simp) ag3) ?_
    refine s_run rfl rfl (rai rfl) ?_
    refine k_nc ?_
    refine k_seq ?_
    refine k_sg ?_
    refine s_run rfl rfl (r_mv (v := .map _) rfl) ?_
    refine s_run rfl rfl (rmi rfl) ?_
    refine s_run rfl rfl (r_loN H 2 rfl rfl rfl (gda) (hg) Try.underlying123 (zv_of inf3)) ?_
    refine s_run rfl rfl (rmt rfl) ?_
    refine s_run rfl rfl (r_ext (v := .int _ _) rfl rfl) ?_
    refine s_run rfl rfl (r_ext (v := .bool _) rfl rfl) ?_
    refine s_run rfl rfl (rai rfl) ?_
    refine s_run rfl rfl (rab rfl) ?_
    refine k_nc ?_
    refine k_sg ?_
    refine s_run rfl rfl (rmb rfl) ?_
    refine k_nc ?_
    refine k_f rfl ?_
    refine k_skip ?_
    refine c_norm ?_
    refine k_sg ?_
    refine s_run rfl rfl (rmp rfl) ?_
    refine s_run rfl rfl (r_nc rfl) ?_
    refine s_run rfl rfl (r_fa0 rfl fo125_0) ?_
    refine s_run rfl rfl (r_lo (HR.same H.only) 0 rfl rfl rfl ag123) ?_
    refine s_run rfl rfl (rmi rfl) ?_
    refine s_run rfl rfl (r_loS (HR.same H.only) 2 rfl rfl rfl (gda) (hg2) Try.underlying123 (zv_of inf3) rfl) ?_
    refine s_run rfl rfl (rmt rfl) ?_
    refine s_run rfl rfl (r_ext (v := .int _ _) rfl rfl) ?_
    refine s_run rfl rfl (r_ext (v := .bool _) rfl rfl) ?_
    refine s_run rfl rfl (rai rfl) ?_
    refine s_run rfl rfl (rab rfl) ?_
    refine k_nc ?_
    refine k_sg ?_
    refine s_run rfl rfl (r_mv (v := .map _) rfl) ?_
    refine s_run rfl rfl (rmi rfl) ?_
    refine s_run rfl rfl (rmi rfl) ?_
    refine s_run rfl rfl (r_add rfl rfl (wI (by omega))) ?_
    refine s_mu H 2 rfl rfl rfl rfl rfl (gda) Try.underlying123 ?_
    clear H; intro _ H; simp only [jA, jB, jC, jD, jE, jF, jG, jH, jI, jJ, jK, Nat.reduceAdd] at H
    refine k_nc ?_
    refine k_sg ?_
    refine s_run rfl rfl (rmb rfl) ?_
    refine s_run rfl rfl (r_notT rfl) ?_
    refine k_nc ?_
    refine k_f rfl ?_
    refine k_skip ?_
    refine b_norm ?_
    refine c_norm ?_
    refine k_rg ?_
    refine s_run rfl rfl (r_add rfl rfl (wI (by omega))) ?_
    refine s_run rfl rfl (rmi rfl) ?_
    refine k_nil ?_
    refine c_round ?_
    rw [hmp] at H
    refine ⟨_, _, ?_, rfl, i + 1, BA, bn, bc, born, by omega, by omega, rfl, rfl, rfl, rfl, rfl, rfl, rfl, rfl, by rw [hns]; exact H⟩
    omega
 ·obtain rfl : i = ln := by omega
  rw [show l.take i = l by rw [← hl]; exact List.take_length] at H
  refine k_sg ?_
  refine s_run rfl rfl (r_lssF rfl rfl (by omega)) ?_
  refine k_nc ?_
  refine k_seq ?_
  refine k_f rfl ?_
  refine k_exit ?_
  refine c_exit ?_
  refine c_exit ?_
  refine b_hit ?_
  refine c_norm ?_
  refine k_seq ?_
  refine k_sg ?_
  refine s_run rfl rfl (rmp rfl) ?_
  refine s_run rfl rfl (r_nc rfl) ?_
  refine s_run rfl rfl (r_fa0 rfl fo125_0) ?_
  refine s_run rfl rfl (r_lo (HR.same H.only) 0 rfl rfl rfl ag123) ?_
  refine s_rmR M H rfl rfl Try.underlying123 ?_
  intro r _ H'; clear H; have H := H'; clear H'
  refine k_nc ?_
  refine k_b ?_
  replace H := HL.more H
  simp only [List.cons_append, List.nil_append] at H
  replace H := H.own_nil 1 3
  have M2 : MapAt kC (Value.int .i64) w I b es clock ages := ⟨M.hb, M.hk, hbI⟩
  clear M HR HL hS
  generalize hnw : Cn.now ages l = nw at *
  refine k_loop (fun z f W => ∃ (lb : List ((Int × Int) × Bool)) (cur : Option (Int × Int)) (DA : Option Addr) (dc : Nat) (dk : List (Int × Int)) (A : Option Addr) (c : Nat), z = (mleft lb).length ∧ lb.map (·.1) = ages ∧ (dk ++ Cn.gone nw (mleft lb)).Perm (Cn.gone nw ages) ∧ f 0 = ptrC p ∧ f 4 = ptrC p4 ∧ f 5 = .map (some b1) ∧ f 6 = ptrC p6 ∧ f 57 = ptrC r ∧ Heap w I [ownN 1 (.slice DA dk.length dc) dk.length ((dk.map Prod.fst).map (Value.int .i64)) 3, mri kC (Value.int .i64) es clock b r lb cur, ownN 1 (.slice BA bn bc) bn (born.map (Value.int .i64)) 3, blk p6 [.slice BA bn bc, .slice DA dk.length dc] 74, mp kC (Value.int .i64) b1 nw, blk p4 [.slice none 0 0, .slice none 0 0] 74, grp (lvE p b A c nc nb nd (dead ++ dk.map Prod.snd))] W) _ ⟨ages.map fun p => (p, true), none, none, 0, [], A, c, rfl, cIter_start _, by rw [mleft_all]; exact List.Perm.refl _, rfl, rfl, rfl, rfl, rfl, by rw [show dead ++ List.map Prod.snd ([] : List (Int × Int)) = dead by simp]; exact H⟩ ?_
  clear H
  rintro z f W ⟨lb, cur, DA, dc, dk, A, c, rfl, hlb, hpm, f0, f4, f5, f6, f57, H⟩
  obtain ⟨f, rfl⟩ := live5 f0 f4 f5 f6 f57
  clear f0 f4 f5 f6 f57
  have hgl : (Cn.gone nw ages).length ≤ ages.length := List.length_filter_le _ _
  have hdkl : dk.length ≤ ages.length := by
   have h1 := hpm.length_eq
   rw [List.length_append] at h1; omega
  have hdkm : ∀ x ∈ dk, x ∈ ages := fun x hx => (List.mem_filter.1 (hpm.subset (List.mem_append_left _ hx))).1
  have hdd : ∀ x ∈ dead ++ dk.map Prod.snd, 0 ≤ x ∧ x ≤ 1000 := fun x hx => by
   rcases List.mem_append.1 hx with h | h
   ·exact hd x h
   ·obtain ⟨y, hy, rfl⟩ := List.mem_map.1 h
    have := hb y (hdkm y hy); omega
  have hddl : (dead ++ dk.map Prod.snd).length ≤ 100000 := by rw [List.length_append, List.length_map]; omega
  by_cases hlm : mleft lb = []
  ·refine k_sg ?_
   refine s_nx0R M2 H 1 (hlm) rfl rfl rfl ?_
   refine s_run rfl rfl (r_ext (v := .bool _) rfl rfl) ?_
   refine k_nc ?_
   refine k_seq ?_
   refine k_f rfl ?_
   refine k_exit ?_
   refine c_exit ?_
   refine c_exit ?_
   refine b_hit ?_
   refine c_norm ?_
   refine k_sg ?_
   refine s_run rfl rfl (r_fa0 rfl fo74_0) ?_
   refine s_run rfl rfl (r_lo H 3 rfl rfl rfl ag25) ?_
   refine s_call rfl (gSort _ _ _ _ _ _ (H.oneP 2 rfl) (by omega)) (ca55 rfl) ?_
   rintro e W1 ⟨rfl, H'⟩
   refine ⟨_, rfl, ?_⟩
   have H := H.atP 2 rfl H'; clear H'; simp only [List.set_cons_zero, List.set_cons_succ] at H
   refine k_nc ?_
   refine k_sg ?_
   refine s_run rfl rfl (r_fa0 rfl fo74_1) ?_
   refine s_run rfl rfl (r_lo H 3 rfl rfl rfl ag25) ?_
   refine s_call rfl (gSort _ _ _ _ _ _ (H.oneP 0 rfl) (by omega)) (ca55 rfl) ?_
   rintro e W1 ⟨rfl, H'⟩
   refine ⟨_, rfl, ?_⟩
   have H := H.atP 0 rfl H'; clear H'; simp only [List.set_cons_zero, List.set_cons_succ] at H
   refine k_nc ?_
   refine k_seq ?_
   rw [hlm] at hpm
   replace hpm : dk.Perm (Cn.gone nw ages) := by simpa [Cn.gone] using hpm
   replace H : Heap w I [_, _, _, _, _] _ := Heap.subl H [6, 0, 3, 4, 5] rfl rfl
   replace H := Heap.ungrp H
   simp only [lvE, List.cons_append, List.nil_append] at H
   refine k_rg ?_
   refine s_run rfl rfl (rmp rfl) ?_
   refine s_run rfl rfl (r_mv (v := .map _) rfl) ?_
   refine s_run rfl rfl (r_nc rfl) ?_
   refine s_run rfl rfl (r_fa0 rfl fo125_0) ?_
   refine s_st (u := .map _) H 0 rfl rfl rfl rfl rfl rfl sz123 ?_
   clear H; intro _ H; simp only [jA, jB, jC, jD, jE, jF, jG, jH, jI, jJ, jK, Nat.reduceAdd] at H
   refine k_nc ?_
   refine k_sg ?_
   refine s_run rfl rfl (rmp rfl) ?_
   refine s_run rfl rfl (r_nc rfl) ?_
   refine s_run rfl rfl (r_fa0 rfl fo125_1) ?_
   refine s_run rfl rfl (r_lo H 0 rfl rfl rfl ag3) ?_
   refine s_run rfl rfl (r_add rfl rfl (wI (by omega))) ?_
   refine s_run rfl rfl (r_nc rfl) ?_
   refine s_run rfl rfl (r_fa0 rfl fo125_1) ?_
   refine s_st (u := .int _ _) H 0 rfl rfl rfl rfl rfl rfl sz3 ?_
   clear H; intro _ H; simp only [jA, jB, jC, jD, jE, jF, jG, jH, jI, jJ, jK, Nat.reduceAdd] at H
   refine k_nc ?_
   refine k_seq ?_
   refine k_cut (fun f W => f 0 = ptrC p ∧ f 4 = ptrC p4 ∧ f 6 = ptrC p6 ∧ Heap w I [blk p [.map (some b1), .int .i64 (nc + 1), .int .i64 (nb + bn), .int .i64 nd, .slice A (Cn.tbl (dead ++ dk.map Prod.snd)).length c] 125, ownN 1 (.slice A (Cn.tbl (dead ++ dk.map Prod.snd)).length c) (Cn.tbl (dead ++ dk.map Prod.snd)).length ((Cn.tbl (dead ++ dk.map Prod.snd)).map (Value.int .i64)) 3, ownN 1 (.slice DA dk.length dc) dk.length ((srt (dk.map Prod.fst)).map (Value.int .i64)) 3, blk p6 [.slice BA bn bc, .slice DA dk.length dc] 74, mp kC (Value.int .i64) b1 nw, blk p4 [.slice none 0 0, .slice none 0 0] 74] W) ?_ ?_
   ·refine k_trF mixed ?_; have H' := H.drew; clear H; have H := H'; clear H'
    refine tqn 0 rfl rfl rfl (fun _ hS => r_mv (v := .pointer _) rfl) trivial ?_
    refine tqn 1 rfl rfl rfl (fun _ hS => r_nc rfl) trivial ?_
    refine tqn 2 rfl rfl rfl (fun _ hS => r_fa0 rfl fo125_2) trivial ?_
    refine tqn 4 rfl rfl rfl (fun _ hS => r_fa0 rfl fo74_0) trivial ?_
    refine t_up2 3 5 (by kernel_rfl) ?_ ?_
    ·refine up_mk rfl ?_
     refine s_run rfl rfl (r_lo H 0 rfl rfl rfl ag3) ?_
     refine k_nil ?_
     refine t_on trivial ?_
     refine t_up1 5 (by kernel_rfl) ?_
     refine up_mk rfl ?_
     refine s_run rfl rfl (r_lo H 3 rfl rfl rfl ag25) ?_
     refine k_nil ?_
     refine t_on trivial ?_
     refine tqn 6 rfl rfl rfl (fun _ hS => r_len rfl Try.underlying25) trivial ?_
     refine tqn 7 rfl rfl rfl (fun _ hS => r_add rfl rfl (wI (by omega))) trivial ?_
     refine tqn 8 rfl rfl rfl (fun _ hS => r_nc rfl) trivial ?_
     refine tqn 9 rfl rfl rfl (fun _ hS => r_fa0 rfl fo125_2) trivial ?_
     refine t_up1 10 (by kernel_rfl) ?_
     refine up_mk rfl ?_
     refine s_st (u := .int _ _) H 0 rfl rfl rfl rfl rfl rfl sz3 ?_
     clear H; intro _ H; simp only [jA, jB, jC, jD, jE, jF, jG, jH, jI, jJ, jK, Nat.reduceAdd] at H
     refine k_nil ?_
     refine t_on trivial ?_
     refine t_done (by kernel_rfl) ?_
     refine k_met ?_
     exact ⟨rfl, rfl, rfl, H⟩
    ·refine up_mk rfl ?_
     refine s_run rfl rfl (r_lo H 3 rfl rfl rfl ag25) ?_
     refine k_nil ?_
     refine t_on trivial ?_
     refine tqn 6 rfl rfl rfl (fun _ hS => r_len rfl Try.underlying25) trivial ?_
     refine t_up1 3 (by kernel_rfl) ?_
     refine up_mk rfl ?_
     refine s_run rfl rfl (r_lo H 0 rfl rfl rfl ag3) ?_
     refine k_nil ?_
     refine t_on trivial ?_
     refine tqn 7 rfl rfl rfl (fun _ hS => r_add rfl rfl (wI (by omega))) trivial ?_
     refine tqn 8 rfl rfl rfl (fun _ hS => r_nc rfl) trivial ?_
     refine tqn 9 rfl rfl rfl (fun _ hS => r_fa0 rfl fo125_2) trivial ?_
     refine t_up1 10 (by kernel_rfl) ?_
     refine up_mk rfl ?_
     refine s_st (u := .int _ _) H 0 rfl rfl rfl rfl rfl rfl sz3 ?_
     clear H; intro _ H; simp only [jA, jB, jC, jD, jE, jF, jG, jH, jI, jJ, jK, Nat.reduceAdd] at H
     refine k_nil ?_
     refine t_on trivial ?_
     refine t_done (by kernel_rfl) ?_
     refine k_met ?_
     exact ⟨rfl, rfl, rfl, H⟩
   ·clear H
    rintro f W ⟨f0, f4, f6, H⟩
    obtain ⟨f, rfl⟩ := live3 f0 f4 f6
    clear f0 f4 f6
    refine c_norm ?_
    refine k_seq ?_
    refine k_cut (fun f W => f 4 = ptrC p4 ∧ f 6 = ptrC p6 ∧ Heap w I [blk p [.map (some b1), .int .i64 (nc + 1), .int .i64 (nb + bn), .int .i64 (nd + dk.length), .slice A (Cn.tbl (dead ++ dk.map Prod.snd)).length c] 125, ownN 1 (.slice A (Cn.tbl (dead ++ dk.map Prod.snd)).length c) (Cn.tbl (dead ++ dk.map Prod.snd)).length ((Cn.tbl (dead ++ dk.map Prod.snd)).map (Value.int .i64)) 3, ownN 1 (.slice DA dk.length dc) dk.length ((srt (dk.map Prod.fst)).map (Value.int .i64)) 3, blk p6 [.slice BA bn bc, .slice DA dk.length dc] 74, mp kC (Value.int .i64) b1 nw, blk p4 [.slice none 0 0, .slice none 0 0] 74] W) ?_ ?_
    ·refine k_trF mixed ?_; have H' := H.drew; clear H; have H := H'; clear H'
     refine tqn 0 rfl rfl rfl (fun _ hS => r_mv (v := .pointer _) rfl) trivial ?_
     refine tqn 1 rfl rfl rfl (fun _ hS => r_nc rfl) trivial ?_
     refine tqn 2 rfl rfl rfl (fun _ hS => r_fa0 rfl fo125_3) trivial ?_
     refine tqn 4 rfl rfl rfl (fun _ hS => r_fa0 rfl fo74_1) trivial ?_
     refine t_up2 3 5 (by kernel_rfl) ?_ ?_
     ·refine up_mk rfl ?_
      refine s_run rfl rfl (r_lo H 0 rfl rfl rfl ag3) ?_
      refine k_nil ?_
      refine t_on trivial ?_
      refine t_up1 5 (by kernel_rfl) ?_
      refine up_mk rfl ?_
      refine s_run rfl rfl (r_lo H 3 rfl rfl rfl ag25) ?_
      refine k_nil ?_
      refine t_on trivial ?_
      refine tqn 6 rfl rfl rfl (fun _ hS => r_len rfl Try.underlying25) trivial ?_
      refine tqn 7 rfl rfl rfl (fun _ hS => r_add rfl rfl (wI (by omega))) trivial ?_
      refine tqn 8 rfl rfl rfl (fun _ hS => r_nc rfl) trivial ?_
      refine tqn 9 rfl rfl rfl (fun _ hS => r_fa0 rfl fo125_3) trivial ?_
      refine t_up1 10 (by kernel_rfl) ?_
      refine up_mk rfl ?_
      refine s_st (u := .int _ _) H 0 rfl rfl rfl rfl rfl rfl sz3 ?_
      clear H; intro _ H; simp only [jA, jB, jC, jD, jE, jF, jG, jH, jI, jJ, jK, Nat.reduceAdd] at H
      refine k_nil ?_
      refine t_on trivial ?_
      refine t_done (by kernel_rfl) ?_
      refine k_met ?_
      exact ⟨rfl, rfl, H⟩
     ·refine up_mk rfl ?_
      refine s_run rfl rfl (r_lo H 3 rfl rfl rfl ag25) ?_
      refine k_nil ?_
      refine t_on trivial ?_
      refine tqn 6 rfl rfl rfl (fun _ hS => r_len rfl Try.underlying25) trivial ?_
      refine t_up1 3 (by kernel_rfl) ?_
      refine up_mk rfl ?_
      refine s_run rfl rfl (r_lo H 0 rfl rfl rfl ag3) ?_
      refine k_nil ?_
      refine t_on trivial ?_
      refine tqn 7 rfl rfl rfl (fun _ hS => r_add rfl rfl (wI (by omega))) trivial ?_
      refine tqn 8 rfl rfl rfl (fun _ hS => r_nc rfl) trivial ?_
      refine tqn 9 rfl rfl rfl (fun _ hS => r_fa0 rfl fo125_3) trivial ?_
      refine t_up1 10 (by kernel_rfl) ?_
      refine up_mk rfl ?_
      refine s_st (u := .int _ _) H 0 rfl rfl rfl rfl rfl rfl sz3 ?_
      clear H; intro _ H; simp only [jA, jB, jC, jD, jE, jF, jG, jH, jI, jJ, jK, Nat.reduceAdd] at H
      refine k_nil ?_
      refine t_on trivial ?_
      refine t_done (by kernel_rfl) ?_
      refine k_met ?_
      exact ⟨rfl, rfl, H⟩
    ·clear H
     rintro f W ⟨f4, f6, H⟩
     obtain ⟨f, rfl⟩ := live2 f4 f6
     clear f4 f6
     refine c_norm ?_
     refine k_sg ?_
     refine s_run rfl rfl (r_la H 3 rfl rfl rfl ag74 sz74) ?_
     refine s_sw H 5 rfl rfl rfl rfl rfl rfl rfl sz74 ?_
     clear H; intro _ H; simp only [jA, jB, jC, jD, jE, jF, jG, jH, jI, jJ, jK, Nat.reduceAdd] at H
     refine k_nc ?_
     refine k_ret ?_
     refine fx1r rfl (rv_a H 5 rfl rfl rfl ag74 sz74) ?_
     exact ⟨b1, A, c, nb + bn, nd + dk.length, DA, dc, BA, bn, bc, dk, rfl, hpm, by omega, by omega, by omega, by omega, (Heap.grps (A := lvE p b1 A c (nc + 1) (nb + bn) (nd + dk.length) (dead ++ dk.map Prod.snd)) (Heap.subl H [0, 1, 4, 2] rfl rfl)).order [2, 0, 1] rfl rfl⟩
  ·refine k_sg ?_
   refine s_nx1R M2 H 1 (hlm) rfl rfl rfl ?_
   intro j q _ hq gq H'; simp only [List.set_cons_zero, List.set_cons_succ, List.take_succ_cons, List.take_zero, List.drop_succ_cons, List.drop_zero, List.cons_append, List.nil_append, List.append_nil, List.length_cons, List.length_nil, Nat.reduceAdd] at H'; clear H; have H := H'; clear H'
   refine s_run rfl rfl (r_ext (v := .bool _) rfl rfl) ?_
   refine k_nc ?_
   refine k_seq ?_
   refine k_t rfl ?_
   refine k_skip ?_
   refine c_norm ?_
   refine k_b ?_
   refine k_sg ?_
   refine s_run rfl rfl (r_enR M2 H 1 rfl rfl) ?_
   refine s_run rfl rfl (r_ext (v := .int _ _) rfl rfl) ?_
   refine s_run rfl rfl (r_ext (v := .int _ _) rfl rfl) ?_
   refine s_run rfl rfl (rai rfl) ?_
   refine s_run rfl rfl (rai rfl) ?_
   refine k_nc ?_
   refine k_seq ?_
   have hfs := mset_fstG hq
   have hml := cLeft_len hq
   have hqa : q ∈ ages := by rw [← hlb]; exact List.mem_map_of_mem (f := fun x : (Int × Int) × Bool => x.1) (List.mem_of_getElem? hq)
   have hqb := hb q hqa
   have hqk := hkd q hqa
   have hp := (mleft_set lb j q hq).filter fun p => (mget nw p.1).isNone
   have gda : kC.Gd q.1 := ⟨by omega, by omega⟩
   obtain ⟨k1, a⟩ := q
   obtain ⟨a, rfl⟩ := Int.eq_ofNat_of_zero_le hqb.1
   simp only at hqb hqk gda ⊢
   generalize hlb2 : lb.set j ((k1, (a : Int)), false) = lb2 at *
   cases hg : mget nw k1 with
   | some v =>
    rw [List.filter_cons_of_neg (by simp [hg])] at hp
    refine k_rg ?_
    refine s_run rfl rfl (r_mv (v := .map _) rfl) ?_
    refine s_run rfl rfl (rmi rfl) ?_
    refine s_run rfl rfl (r_loS H 4 rfl rfl rfl (gda) (hg) Try.underlying123 (zv_of inf3) rfl) ?_
    refine s_run rfl rfl (rmt rfl) ?_
    refine s_run rfl rfl (r_ext (v := .int _ _) rfl rfl) ?_
    refine s_run rfl rfl (r_ext (v := .bool _) rfl rfl) ?_
    refine s_run rfl rfl (rai rfl) ?_
    refine s_run rfl rfl (rab rfl) ?_
    refine k_nc ?_
    refine k_sg ?_
    refine s_run rfl rfl (rmb rfl) ?_
    refine s_run rfl rfl (r_notT rfl) ?_
    refine k_nc ?_
    refine k_f rfl ?_
    refine k_skip ?_
    refine b_norm ?_
    refine c_round ?_
    refine ⟨_, _, ?_, rfl, lb2, some (k1, (a : Int)), DA, dc, dk, A, c, rfl, by rw [hfs]; exact hlb, (List.Perm.append_left dk hp.symm).trans hpm, rfl, rfl, rfl, rfl, rfl, H⟩
    omega
   | none =>
    rw [List.filter_cons_of_pos (by simp [hg])] at hp
    have hpm2 : ((dk ++ [(k1, (a : Int))]) ++ Cn.gone nw (mleft lb2)).Perm (Cn.gone nw ages) := by
     rw [List.append_assoc]
     exact (List.Perm.append_left dk hp.symm).trans hpm
    have hld : (dk ++ [(k1, (a : Int))]).length = dk.length + 1 := by simp
    refine k_rg ?_
    refine s_run rfl rfl (r_mv (v := .map _) rfl) ?_
    refine s_run rfl rfl (rmi rfl) ?_
    refine s_run rfl rfl (r_loN H 4 rfl rfl rfl (gda) (hg) Try.underlying123 (zv_of inf3)) ?_
    refine s_run rfl rfl (rmt rfl) ?_
    refine s_run rfl rfl (r_ext (v := .int _ _) rfl rfl) ?_
    refine s_run rfl rfl (r_ext (v := .bool _) rfl rfl) ?_
    refine s_run rfl rfl (rai rfl) ?_
    refine s_run rfl rfl (rab rfl) ?_
    refine k_nc ?_
    refine k_sg ?_
    refine s_run rfl rfl (rmb rfl) ?_
    refine s_run rfl rfl (r_notF rfl) ?_
    refine k_nc ?_
    refine k_t rfl ?_
    refine k_sg ?_
    refine s_run rfl rfl (r_fa0 rfl fo74_1) ?_
    refine s_run rfl rfl (r_lo H 3 rfl rfl rfl ag25) ?_
    refine s_run rfl rfl (rmi rfl) ?_
    refine s_app1 (enc := (Value.int .i64)) H 0 rfl rfl rfl rfl rfl rfl rfl (by omega) Try.underlying25 inf3 rfl ?_
    intro _ An cn _ H'; simp only [List.set_cons_zero, List.set_cons_succ, List.take_succ_cons, List.take_zero, List.drop_succ_cons, List.drop_zero, List.cons_append, List.nil_append, List.append_nil, List.length_cons, List.length_nil, Nat.reduceAdd] at H'; clear H; have H := H'; clear H'
    refine s_run rfl rfl (r_fa0 rfl fo74_1) ?_
    refine s_st (u := .slice _ _ _) H 3 rfl rfl rfl rfl rfl rfl sz25 ?_
    clear H; intro _ H; simp only [jA, jB, jC, jD, jE, jF, jG, jH, jI, jJ, jK, Nat.reduceAdd] at H
    refine k_nc ?_
    refine k_rg ?_
    refine s_run rfl rfl (rmp rfl) ?_
    refine s_run rfl rfl (rmi rfl) ?_
    refine s_call rfl (cLive (H.grp_ents 6 rfl) a (by omega) (fun x hx => (hdd x hx).2) hddl) (ca68 rfl) ?_
    rintro e W1 ⟨rfl, A3, c3, H'⟩
    refine ⟨_, rfl, ?_⟩
    have H := H.at 6 rfl (grp_heap H') (fun i hi => hi); clear H'; simp only [List.set_cons_zero, List.set_cons_succ] at H
    refine k_nil ?_
    refine b_norm ?_
    refine c_round ?_
    refine ⟨_, _, ?_, rfl, lb2, some (k1, (a : Int)), An, cn, dk ++ [(k1, (a : Int))], A3, c3, rfl, by rw [hfs]; exact hlb, hpm2, rfl, rfl, rfl, rfl, rfl, by rw [hld, show (dk ++ [(k1, (a : Int))]).map Prod.fst = dk.map Prod.fst ++ [k1] by simp, show dead ++ (dk ++ [(k1, (a : Int))]).map Prod.snd = dead ++ dk.map Prod.snd ++ [(a : Int)] by simp]; exact H⟩
    omega
end
end Go.Proofs.Ytlakbclnilakbaa
end
