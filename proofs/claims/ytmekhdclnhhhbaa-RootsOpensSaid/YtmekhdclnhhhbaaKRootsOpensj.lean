/- Parts of the proof, one behind the other. -/
import Derived.Test.YtmekhdclnhhhbaaKRootsOpensi
set_option linter.unusedSimpArgs false
set_option linter.unusedVariables false
section
namespace Go.Proofs.Ytmekhdclnhhhbaa
open Go.RowKit
theorem u64_ints {xs : List Int} (h : Im.U xs) : Ints .u64 xs := fun z hz => wf_u64 (h z hz)
theorem tChoose (a b : List Int) (w : World) (la : a.length = 16) (lb : b.length = 16) (ha : Im.U a) (hb : Im.U b) :
  Calls Try.prog 105 [.agg (a.map (Value.int .u64)).toArray, .agg (b.map (Value.int .u64)).toArray].toArray w fun e w' => e = .returned (.tuple #[.agg (.int .u64 (chE a b) :: (chR a b).map (Value.int .i64)).toArray, .int .i64 (chI a b), .bool (chB a b)]) ∧ Only [] w w' := by
 obtain ⟨l0, l1, l2, l3, l4, l5, l6, l7, l8, l9, l10, l11, l12, l13, l14, l15, rfl⟩ := list16 la
 obtain ⟨m0, m1, m2, m3, m4, m5, m6, m7, m8, m9, m10, m11, m12, m13, m14, m15, rfl⟩ := list16 lb
 exact (slCh_any l0 l1 l2 l3 l4 l5 l6 l7 l8 l9 l10 l11 l12 l13 l14 l15 m0 m1 m2 m3 m4 m5 m6 m7 m8 m9 m10 m11 m12 m13 m14 m15 w (u64_ints ha) (u64_ints hb)).mono fun _ _ h => ⟨h.1, Only.of_below h.2 _⟩
theorem rtChoose (a b : List Int) (w : World) (la : a.length = 16) (lb : b.length = 16) (ha : Im.U a) (hb : Im.U b) :
  Calls Try.prog 107 [.agg (a.map (Value.int .u64)).toArray, .agg (b.map (Value.int .u64)).toArray].toArray w fun e w' => e = .returned (.tuple #[.agg (.int .u64 (chE a b) :: (chR a b).map (Value.int .i64)).toArray, .int .i64 (chK a b)]) ∧ Only [] w w' := by
 obtain ⟨l0, l1, l2, l3, l4, l5, l6, l7, l8, l9, l10, l11, l12, l13, l14, l15, rfl⟩ := list16 la
 obtain ⟨m0, m1, m2, m3, m4, m5, m6, m7, m8, m9, m10, m11, m12, m13, m14, m15, rfl⟩ := list16 lb
 exact (rslCh_any l0 l1 l2 l3 l4 l5 l6 l7 l8 l9 l10 l11 l12 l13 l14 l15 m0 m1 m2 m3 m4 m5 m6 m7 m8 m9 m10 m11 m12 m13 m14 m15 w (u64_ints ha) (u64_ints hb)).mono fun _ _ h => ⟨h.1, Only.of_below h.2 _⟩
/-- a table in memory -/
def tabC (gp : Nat) (E : Int) (R : List Int) (k : Int) (V : List Int) : List Value := ptr gp :: .int .u64 E :: (R.map (Value.int .i64) ++ (.int .i64 k :: V.map (Value.int .i64)))
theorem tabE (gp : Nat) (E r0 r1 r2 r3 r4 r5 r6 r7 k v0 v1 v2 v3 v4 v5 v6 v7 : Int) : tabC gp E [r0, r1, r2, r3, r4, r5, r6, r7] k [v0, v1, v2, v3, v4, v5, v6, v7] =
  [ptr gp, .int .u64 E, .int .i64 r0, .int .i64 r1, .int .i64 r2, .int .i64 r3, .int .i64 r4, .int .i64 r5, .int .i64 r6, .int .i64 r7, .int .i64 k, .int .i64 v0, .int .i64 v1, .int .i64 v2, .int .i64 v3, .int .i64 v4, .int .i64 v5, .int .i64 v6, .int .i64 v7] := rfl
theorem tOpen (g : Geo) (d : Nv.D) (w : World) (hE : Ents (devL g d) w) (hU : Im.U d.cache) :
  Calls Try.prog 61 [ptr g.p].toArray w fun e w' =>
   (chK (getsA d.cache 64 16) (getsA d.cache 128 16) = -1 ∧ e = .returned (.tuple #[.pointer none, .int .i64 23]) ∧ Only [] w w') ∨
   (chK (getsA d.cache 64 16) (getsA d.cache 128 16) ≠ -1 ∧ ∃ t, e = .returned (.tuple #[ptr t, .int .i64 0]) ∧ Heap w [] [blk t (tabC g.p (chE (getsA d.cache 64 16) (getsA d.cache 128 16)) (chR (getsA d.cache 64 16) (getsA d.cache 128 16)) (chK (getsA d.cache 64 16) (getsA d.cache 128 16)) (chR (getsA d.cache 64 16) (getsA d.cache 128 16))) 149] w') := by
 have HR := Heap.start hE
 have H := Heap.nil w
 have hR0 := fun w hE => tRead g d 0 w hE (.inl rfl)
 have hR1 := fun w hE => tRead g d 1 w hE (.inr rfl)
 have e0 : 64 + 64 * 0 = 64 := rfl
 have e1 : 64 + 64 * 1 = 128 := rfl
 rw [e0] at hR0
 rw [e1] at hR1
 have hC := fun w => tChoose _ _ w (getsA_len d.cache 64 16) (getsA_len d.cache 128 16) (getsA_U hU 64 16) (getsA_U hU 128 16)
 have hl := chR_len _ _ (getsA_len d.cache 64 16) (getsA_len d.cache 128 16)
 have hor := chK_or (getsA d.cache 64 16) (getsA d.cache 128 16)
 have hI : chK (getsA d.cache 64 16) (getsA d.cache 128 16) ≠ -1 → chI (getsA d.cache 64 16) (getsA d.cache 128 16) = chK (getsA d.cache 64 16) (getsA d.cache 128 16) := fun h => by
  unfold chI
  rcases hor with h0 | h0 | h0
  ·rw [h0]; rfl
  ·rw [h0]; rfl
  ·exact absurd h0 h
 have hB : chB (getsA d.cache 64 16) (getsA d.cache 128 16) = decide (chK (getsA d.cache 64 16) (getsA d.cache 128 16) ≠ -1) := rfl
 generalize getsA d.cache 64 16 = a at *
 generalize getsA d.cache 128 16 = b at *
 generalize chE a b = E at *
 generalize chR a b = R at *
 generalize chK a b = K at *
 generalize chB a b = Bq at *
 generalize chI a b = I at *
 obtain ⟨r0, r1, r2, r3, r4, r5, r6, r7, rfl⟩ := list8 hl
 simp only [List.map_cons, List.map_nil] at hC
 by_cases hk : K = -1
 ·have hBf : Bq = false := by rw [hB]; simp [hk]
  subst hBf
  refine k_in (N := 25) Try.func61 rfl rfl rfl ?_
  refine k_sg ?_
  refine s_run rfl rfl (rap rfl) ?_
  refine s_run rfl rfl (rai rfl) ?_
  refine k_nc ?_
  refine k_sg ?_
  refine s_run rfl rfl (rmp rfl) ?_
  refine s_call rfl (hR0 _ (HR.same H.only).ents) (ca106 rfl) ?_
  rintro e W1 ⟨rfl, H'⟩
  refine ⟨_, rfl, ?_⟩
  have H := H.same H'; clear H'
  refine s_run rfl rfl (rmp rfl) ?_
  refine s_call rfl (hR1 _ (HR.same H.only).ents) (ca106 rfl) ?_
  rintro e W1 ⟨rfl, H'⟩
  refine ⟨_, rfl, ?_⟩
  have H := H.same H'; clear H'
  refine s_call rfl (hC _) (ca105 rfl) ?_
  rintro e W1 ⟨rfl, H'⟩
  refine ⟨_, rfl, ?_⟩
  have H := H.same H'; clear H'
  refine s_run rfl rfl (rmt rfl) ?_
  refine s_run rfl rfl (r_ext (v := .agg _) rfl rfl) ?_
  refine s_run rfl rfl (r_ext (v := .int _ _) rfl rfl) ?_
  refine s_run rfl rfl (r_ext (v := .bool _) rfl rfl) ?_
  refine s_al H rfl inf144 ?_
  intro p4 _ H'; clear H; have H := H'; clear H'
  refine s_sw H 0 rfl rfl rfl rfl rfl rfl rfl sz144 ?_
  clear H; intro _ H; simp only [jA, jB, jC, jD, jE, jF, jG, jH, jI, jJ, jK, Nat.reduceAdd] at H
  refine s_run rfl rfl (rai rfl) ?_
  refine s_run rfl rfl (rab rfl) ?_
  refine k_nc ?_
  refine k_seq ?_
  refine k_sg ?_
  refine s_run rfl rfl (rmb rfl) ?_
  refine s_run rfl rfl (r_notF rfl) ?_
  refine k_nc ?_
  refine k_t rfl ?_
  refine k_sg ?_
  refine s_run rfl rfl (rap rfl) ?_
  refine s_run rfl rfl (rai rfl) ?_
  refine k_nc ?_
  refine k_ret ?_
  refine c_ret ?_
  refine fin2r (v := .pointer _) (v2 := .int _ _) rfl rfl rfl ?_
  exact .inl ⟨hk, rfl, H.only⟩
 ·have hBt : Bq = true := by rw [hB]; simp [hk]
  subst hBt
  rw [hI hk] at hC
  refine k_in (N := 25) Try.func61 rfl rfl rfl ?_
  refine k_sg ?_
  refine s_run rfl rfl (rap rfl) ?_
  refine s_run rfl rfl (rai rfl) ?_
  refine k_nc ?_
  refine k_sg ?_
  refine s_run rfl rfl (rmp rfl) ?_
  refine s_call rfl (hR0 _ (HR.same H.only).ents) (ca106 rfl) ?_
  rintro e W1 ⟨rfl, H'⟩
  refine ⟨_, rfl, ?_⟩
  have H := H.same H'; clear H'
  refine s_run rfl rfl (rmp rfl) ?_
  refine s_call rfl (hR1 _ (HR.same H.only).ents) (ca106 rfl) ?_
  rintro e W1 ⟨rfl, H'⟩
  refine ⟨_, rfl, ?_⟩
  have H := H.same H'; clear H'
  refine s_call rfl (hC _) (ca105 rfl) ?_
  rintro e W1 ⟨rfl, H'⟩
  refine ⟨_, rfl, ?_⟩
  have H := H.same H'; clear H'
  refine s_run rfl rfl (rmt rfl) ?_
  refine s_run rfl rfl (r_ext (v := .agg _) rfl rfl) ?_
  refine s_run rfl rfl (r_ext (v := .int _ _) rfl rfl) ?_
  refine s_run rfl rfl (r_ext (v := .bool _) rfl rfl) ?_
  refine s_al H rfl inf144 ?_
  intro p4 _ H'; clear H; have H := H'; clear H'
  refine s_sw H 0 rfl rfl rfl rfl rfl rfl rfl sz144 ?_
  clear H; intro _ H; simp only [jA, jB, jC, jD, jE, jF, jG, jH, jI, jJ, jK, Nat.reduceAdd] at H
  refine s_run rfl rfl (rai rfl) ?_
  refine s_run rfl rfl (rab rfl) ?_
  refine k_nc ?_
  refine k_seq ?_
  refine k_sg ?_
  refine s_run rfl rfl (rmb rfl) ?_
  refine s_run rfl rfl (r_notT rfl) ?_
  refine k_nc ?_
  refine k_f rfl ?_
  refine k_skip ?_
  refine c_norm ?_
  refine k_sg ?_
  refine s_run rfl rfl (rmp rfl) ?_
  refine s_run rfl rfl (r_la H 0 rfl rfl rfl ag144 sz144) ?_
  refine s_run rfl rfl (rmi rfl) ?_
  refine s_run rfl rfl (r_fa0 rfl fo144_1) ?_
  refine s_run rfl rfl (r_lp H 0 (vs := [.int .i64 r0, .int .i64 r1, .int .i64 r2, .int .i64 r3, .int .i64 r4, .int .i64 r5, .int .i64 r6, .int .i64 r7]) rfl rfl rfl rfl ag87 sz87) ?_
  refine s_run rfl rfl (r_bd (bd149_0_1_2_3 _ _ _ _ _ _ _ _ _ _ _ _ _ _ _ _ _ _ _) rfl) ?_
  refine s_box H rfl rfl ?_
  intro p24 _ H'; clear H; have H := H'; clear H'
  refine s_run rfl rfl (rap rfl) ?_
  refine s_run rfl rfl (rai rfl) ?_
  refine k_nc ?_
  refine k_ret ?_
  refine fin2r (v := .pointer _) (v2 := .int _ _) rfl rfl rfl ?_
  exact .inr ⟨hk, _, rfl, H.drops (A := [_])⟩
theorem lit8 (v0 v1 v2 v3 v4 v5 v6 v7 : Int) (i : Nat) (h : i < 8) : [v0, v1, v2, v3, v4, v5, v6, v7][i]? = some ([v0, v1, v2, v3, v4, v5, v6, v7].getD i 0) := by
 rw [List.getD_eq_getElem?_getD, List.getElem?_eq_getElem (by simpa using h)]; rfl
theorem tGet (t gp : Nat) (E k : Int) (R V : List Int) (a : Int) (w : World) (hE : Ents [blk t (tabC gp E R k V) 149] w) (hR : R.length = 8) (hV : V.length = 8) :
  Calls Try.prog 102 [ptr t, .int .i64 a].toArray w fun e w' => e = .returned (.tuple #[.int .i64 (if 0 ≤ a ∧ a < 8 then V.getD a.toNat 0 else 0), .int .i64 (if 0 ≤ a ∧ a < 8 then 0 else 1)]) ∧ Only [] w w' := by
 have HR := Heap.start hE
 have H := Heap.nil w
 by_cases h0 : a < 0
 ·rw [if_neg (by omega), if_neg (by omega)]
  refine k_in (N := 18) Try.func102 rfl rfl rfl ?_
  refine k_sg ?_
  refine s_run rfl rfl (rai rfl) ?_
  refine s_run rfl rfl (rai rfl) ?_
  refine k_nc ?_
  refine k_seq ?_
  refine k_sg ?_
  refine s_run rfl rfl (rmi rfl) ?_
  refine s_run rfl rfl (r_lssT rfl rfl (by omega)) ?_
  refine s_run rfl rfl (rmb rfl) ?_
  refine s_off rfl (g_off 8 (by kernel_rfl) rfl rfl) ?_
  refine s_off rfl (g_off 8 (by kernel_rfl) rfl rfl) ?_
  refine s_run rfl rfl (r_pkT (v := .bool _) rfl rfl) ?_
  refine k_nc ?_
  refine k_t rfl ?_
  refine k_sg ?_
  refine s_run rfl rfl (rai rfl) ?_
  refine s_run rfl rfl (rai rfl) ?_
  refine k_nc ?_
  refine k_ret ?_
  refine c_ret ?_
  refine fin2r (v := .int _ _) (v2 := .int _ _) rfl rfl rfl ?_
  exact ⟨rfl, H.only⟩
 by_cases h8 : 8 ≤ a
 ·rw [if_neg (by omega), if_neg (by omega)]
  refine k_in (N := 18) Try.func102 rfl rfl rfl ?_
  refine k_sg ?_
  refine s_run rfl rfl (rai rfl) ?_
  refine s_run rfl rfl (rai rfl) ?_
  refine k_nc ?_
  refine k_seq ?_
  refine k_sg ?_
  refine s_run rfl rfl (rmi rfl) ?_
  refine s_run rfl rfl (r_lssF rfl rfl (by omega)) ?_
  refine s_run rfl rfl (rmb rfl) ?_
  refine s_run rfl (g_on 8 (by kernel_rfl) rfl) (rmi rfl) ?_
  refine s_run rfl (g_on 8 (by kernel_rfl) rfl) (r_geqT rfl rfl (by omega)) ?_
  refine s_run rfl rfl (r_pkF (v := .bool _) rfl rfl) ?_
  refine k_nc ?_
  refine k_t rfl ?_
  refine k_sg ?_
  refine s_run rfl rfl (rai rfl) ?_
  refine s_run rfl rfl (rai rfl) ?_
  refine k_nc ?_
  refine k_ret ?_
  refine c_ret ?_
  refine fin2r (v := .int _ _) (v2 := .int _ _) rfl rfl rfl ?_
  exact ⟨rfl, H.only⟩
 rw [if_pos (by omega), if_pos (by omega)]
 obtain ⟨i, rfl⟩ := Int.eq_ofNat_of_zero_le (show 0 ≤ a by omega)
 have hi : i < 8 := by omega
 have hv : (tabC gp E R k V)[11 + i]? = some (.int .i64 (V.getD i 0)) := by
  obtain ⟨r0, r1, r2, r3, r4, r5, r6, r7, rfl⟩ := list8 hR
  obtain ⟨v0, v1, v2, v3, v4, v5, v6, v7, rfl⟩ := list8 hV
  have e : tabC gp E [r0, r1, r2, r3, r4, r5, r6, r7] k [v0, v1, v2, v3, v4, v5, v6, v7] = [ptr gp, .int .u64 E, .int .i64 r0, .int .i64 r1, .int .i64 r2, .int .i64 r3, .int .i64 r4, .int .i64 r5, .int .i64 r6, .int .i64 r7, .int .i64 k] ++ [v0, v1, v2, v3, v4, v5, v6, v7].map (Value.int .i64) := rfl
  rw [e, List.getElem?_append_right (by simp)]
  simp only [List.length_cons, List.length_nil, Nat.add_sub_cancel_left, List.getElem?_map, Nat.zero_add, Nat.reduceAdd]
  rw [lit8 _ _ _ _ _ _ _ _ i hi]; rfl
 refine k_in (N := 18) Try.func102 rfl rfl rfl ?_
 refine k_sg ?_
 refine s_run rfl rfl (rai rfl) ?_
 refine s_run rfl rfl (rai rfl) ?_
 refine k_nc ?_
 refine k_seq ?_
 refine k_sg ?_
 refine s_run rfl rfl (rmi rfl) ?_
 refine s_run rfl rfl (r_lssF rfl rfl (by omega)) ?_
 refine s_run rfl rfl (rmb rfl) ?_
 refine s_run rfl (g_on 8 (by kernel_rfl) rfl) (rmi rfl) ?_
 refine s_run rfl (g_on 8 (by kernel_rfl) rfl) (r_geqF rfl rfl (by omega)) ?_
 refine s_run rfl rfl (r_pkF (v := .bool _) rfl rfl) ?_
 refine k_nc ?_
 refine k_f rfl ?_
 refine k_skip ?_
 refine c_norm ?_
 refine k_sg ?_
 refine s_run rfl rfl (rmp rfl) ?_
 refine s_run rfl rfl (rmi rfl) ?_
 refine s_run rfl rfl (r_nc rfl) ?_
 refine s_run rfl rfl (r_fa0 rfl fo149_3) ?_
 refine s_run rfl rfl (r_ia1 rfl rfl rfl (by omega) Try.underlying87 sz3) ?_
 refine s_run rfl rfl (r_lo (HR.same H.only) 0 rfl rfl hv ag3) ?_
 refine s_run rfl rfl (rai rfl) ?_
 refine s_run rfl rfl (rai rfl) ?_
 refine k_nc ?_
 refine k_ret ?_
 refine fin2r (v := .int _ _) (v2 := .int _ _) rfl rfl rfl ?_
 exact ⟨by rw [Int.toNat_natCast], H.only⟩
end Go.Proofs.Ytmekhdclnhhhbaa
end

section
namespace Go.Proofs.Ytmekhdclnhhhbaa
open Go.RowKit
theorem tab_get {gp : Nat} {E k : Int} {R V : List Int} (hR : R.length = 8) (i : Nat) (hi : i < V.length) : (tabC gp E R k V)[11 + i]? = some (.int .i64 (V.getD i 0)) := by
 unfold tabC
 rw [show 11 + i = (9 + i) + 1 + 1 by omega, List.getElem?_cons_succ, List.getElem?_cons_succ, List.getElem?_append_right (by rw [List.length_map]; omega), List.length_map, hR, show 9 + i - 8 = i + 1 by omega, List.getElem?_cons_succ, List.getElem?_map, List.getElem?_eq_getElem hi, List.getD_eq_getElem?_getD, List.getElem?_eq_getElem hi]
 rfl
theorem tab_set {gp : Nat} {E k : Int} {R V : List Int} (hR : R.length = 8) (i : Nat) (v : Int) : (tabC gp E R k V).set (11 + i) (.int .i64 v) = tabC gp E R k (V.set i v) := by
 unfold tabC
 rw [show 11 + i = (9 + i) + 1 + 1 by omega, List.set_cons_succ, List.set_cons_succ, List.set_append_right _ _ (by rw [List.length_map]; omega), List.length_map, hR, show 9 + i - 8 = i + 1 by omega, List.set_cons_succ, List.map_set]
theorem tSet (t gp : Nat) (E k : Int) (R V : List Int) (a v : Int) (w : World) (hE : Ents [blk t (tabC gp E R k V) 149] w) (hR : R.length = 8) (hV : V.length = 8) :
  Calls Try.prog 93 [ptr t, .int .i64 a, .int .i64 v].toArray w fun e w' => e = .returned (.int .i64 (if 0 ≤ a ∧ a < 8 ∧ 0 ≤ v ∧ v < 131072 then 0 else 1)) ∧ Heap w [t] [blk t (tabC gp E R k (if 0 ≤ a ∧ a < 8 ∧ 0 ≤ v ∧ v < 131072 then V.set a.toNat v else V)) 149] w' := by
 have H0 := Heap.start hE
 have e0 : ids [blk t (tabC gp E R k V) 149] = [t] := rfl
 rw [e0] at H0
 have H := H0
 clear H0 e0
 by_cases h0 : a < 0
 ·rw [if_neg (by omega), if_neg (by omega)]
  refine k_in (N := 27) Try.func93 rfl rfl rfl ?_
  refine k_sg ?_
  refine s_run rfl rfl (rai rfl) ?_
  refine k_nc ?_
  refine k_seq ?_
  refine k_sg ?_
  refine s_run rfl rfl (rmi rfl) ?_
  refine s_run rfl rfl (r_lssT rfl rfl (by omega)) ?_
  refine s_run rfl rfl (rmb rfl) ?_
  refine s_off rfl (g_off 9 (by kernel_rfl) rfl rfl) ?_
  refine s_off rfl (g_off 9 (by kernel_rfl) rfl rfl) ?_
  refine s_run rfl rfl (r_pkT (v := .bool _) rfl rfl) ?_
  refine s_run rfl rfl (rmb rfl) ?_
  refine s_off rfl (g_off 13 (by kernel_rfl) rfl rfl) ?_
  refine s_off rfl (g_off 13 (by kernel_rfl) rfl rfl) ?_
  refine s_run rfl rfl (r_pkT (v := .bool _) rfl rfl) ?_
  refine s_run rfl rfl (rmb rfl) ?_
  refine s_off rfl (g_off 17 (by kernel_rfl) rfl rfl) ?_
  refine s_off rfl (g_off 17 (by kernel_rfl) rfl rfl) ?_
  refine s_run rfl rfl (r_pkT (v := .bool _) rfl rfl) ?_
  refine k_nc ?_
  refine k_t rfl ?_
  refine k_sg ?_
  refine s_run rfl rfl (rai rfl) ?_
  refine k_nc ?_
  refine k_ret ?_
  refine c_ret ?_
  refine fin1r (v := .int _ _) rfl rfl ?_
  exact ⟨rfl, H⟩
 by_cases h8 : 8 ≤ a
 ·rw [if_neg (by omega), if_neg (by omega)]
  refine k_in (N := 27) Try.func93 rfl rfl rfl ?_
  refine k_sg ?_
  refine s_run rfl rfl (rai rfl) ?_
  refine k_nc ?_
  refine k_seq ?_
  refine k_sg ?_
  refine s_run rfl rfl (rmi rfl) ?_
  refine s_run rfl rfl (r_lssF rfl rfl (by omega)) ?_
  refine s_run rfl rfl (rmb rfl) ?_
  refine s_run rfl (g_on 9 (by kernel_rfl) rfl) (rmi rfl) ?_
  refine s_run rfl (g_on 9 (by kernel_rfl) rfl) (r_geqT rfl rfl (by omega)) ?_
  refine s_run rfl rfl (r_pkF (v := .bool _) rfl rfl) ?_
  refine s_run rfl rfl (rmb rfl) ?_
  refine s_off rfl (g_off 13 (by kernel_rfl) rfl rfl) ?_
  refine s_off rfl (g_off 13 (by kernel_rfl) rfl rfl) ?_
  refine s_run rfl rfl (r_pkT (v := .bool _) rfl rfl) ?_
  refine s_run rfl rfl (rmb rfl) ?_
  refine s_off rfl (g_off 17 (by kernel_rfl) rfl rfl) ?_
  refine s_off rfl (g_off 17 (by kernel_rfl) rfl rfl) ?_
  refine s_run rfl rfl (r_pkT (v := .bool _) rfl rfl) ?_
  refine k_nc ?_
  refine k_t rfl ?_
  refine k_sg ?_
  refine s_run rfl rfl (rai rfl) ?_
  refine k_nc ?_
  refine k_ret ?_
  refine c_ret ?_
  refine fin1r (v := .int _ _) rfl rfl ?_
  exact ⟨rfl, H⟩
 by_cases h1 : v < 0
 ·rw [if_neg (by omega), if_neg (by omega)]
  refine k_in (N := 27) Try.func93 rfl rfl rfl ?_
  refine k_sg ?_
  refine s_run rfl rfl (rai rfl) ?_
  refine k_nc ?_
  refine k_seq ?_
  refine k_sg ?_
  refine s_run rfl rfl (rmi rfl) ?_
  refine s_run rfl rfl (r_lssF rfl rfl (by omega)) ?_
  refine s_run rfl rfl (rmb rfl) ?_
  refine s_run rfl (g_on 9 (by kernel_rfl) rfl) (rmi rfl) ?_
  refine s_run rfl (g_on 9 (by kernel_rfl) rfl) (r_geqF rfl rfl (by omega)) ?_
  refine s_run rfl rfl (r_pkF (v := .bool _) rfl rfl) ?_
  refine s_run rfl rfl (rmb rfl) ?_
  refine s_run rfl (g_on 13 (by kernel_rfl) rfl) (rmi rfl) ?_
  refine s_run rfl (g_on 13 (by kernel_rfl) rfl) (r_lssT rfl rfl (by omega)) ?_
  refine s_run rfl rfl (r_pkF (v := .bool _) rfl rfl) ?_
  refine s_run rfl rfl (rmb rfl) ?_
  refine s_off rfl (g_off 17 (by kernel_rfl) rfl rfl) ?_
  refine s_off rfl (g_off 17 (by kernel_rfl) rfl rfl) ?_
  refine s_run rfl rfl (r_pkT (v := .bool _) rfl rfl) ?_
  refine k_nc ?_
  refine k_t rfl ?_
  refine k_sg ?_
  refine s_run rfl rfl (rai rfl) ?_
  refine k_nc ?_
  refine k_ret ?_
  refine c_ret ?_
  refine fin1r (v := .int _ _) rfl rfl ?_
  exact ⟨rfl, H⟩
 by_cases h2 : 131072 ≤ v
 ·rw [if_neg (by omega), if_neg (by omega)]
  refine k_in (N := 27) Try.func93 rfl rfl rfl ?_
  refine k_sg ?_
  refine s_run rfl rfl (rai rfl) ?_
  refine k_nc ?_
  refine k_seq ?_
  refine k_sg ?_
  refine s_run rfl rfl (rmi rfl) ?_
  refine s_run rfl rfl (r_lssF rfl rfl (by omega)) ?_
  refine s_run rfl rfl (rmb rfl) ?_
  refine s_run rfl (g_on 9 (by kernel_rfl) rfl) (rmi rfl) ?_
  refine s_run rfl (g_on 9 (by kernel_rfl) rfl) (r_geqF rfl rfl (by omega)) ?_
  refine s_run rfl rfl (r_pkF (v := .bool _) rfl rfl) ?_
  refine s_run rfl rfl (rmb rfl) ?_
  refine s_run rfl (g_on 13 (by kernel_rfl) rfl) (rmi rfl) ?_
  refine s_run rfl (g_on 13 (by kernel_rfl) rfl) (r_lssF rfl rfl (by omega)) ?_
  refine s_run rfl rfl (r_pkF (v := .bool _) rfl rfl) ?_
  refine s_run rfl rfl (rmb rfl) ?_
  refine s_run rfl (g_on 17 (by kernel_rfl) rfl) (rmi rfl) ?_
  refine s_run rfl (g_on 17 (by kernel_rfl) rfl) (r_geqT rfl rfl (by omega)) ?_
  refine s_run rfl rfl (r_pkF (v := .bool _) rfl rfl) ?_
  refine k_nc ?_
  refine k_t rfl ?_
  refine k_sg ?_
  refine s_run rfl rfl (rai rfl) ?_
  refine k_nc ?_
  refine k_ret ?_
  refine c_ret ?_
  refine fin1r (v := .int _ _) rfl rfl ?_
  exact ⟨rfl, H⟩
 rw [if_pos (by omega), if_pos (by omega)]
 obtain ⟨i, rfl⟩ := Int.eq_ofNat_of_zero_le (show 0 ≤ a by omega)
 have hv := tab_get (gp := gp) (E := E) (k := k) hR i (V := V) (by omega)
 refine k_in (N := 27) Try.func93 rfl rfl rfl ?_
 refine k_sg ?_
 refine s_run rfl rfl (rai rfl) ?_
 refine k_nc ?_
 refine k_seq ?_
 refine k_sg ?_
 refine s_run rfl rfl (rmi rfl) ?_
 refine s_run rfl rfl (r_lssF rfl rfl (by omega)) ?_
 refine s_run rfl rfl (rmb rfl) ?_
 refine s_run rfl (g_on 9 (by kernel_rfl) rfl) (rmi rfl) ?_
 refine s_run rfl (g_on 9 (by kernel_rfl) rfl) (r_geqF rfl rfl (by omega)) ?_
 refine s_run rfl rfl (r_pkF (v := .bool _) rfl rfl) ?_
 refine s_run rfl rfl (rmb rfl) ?_
 refine s_run rfl (g_on 13 (by kernel_rfl) rfl) (rmi rfl) ?_
 refine s_run rfl (g_on 13 (by kernel_rfl) rfl) (r_lssF rfl rfl (by omega)) ?_
 refine s_run rfl rfl (r_pkF (v := .bool _) rfl rfl) ?_
 refine s_run rfl rfl (rmb rfl) ?_
 refine s_run rfl (g_on 17 (by kernel_rfl) rfl) (rmi rfl) ?_
 refine s_run rfl (g_on 17 (by kernel_rfl) rfl) (r_geqF rfl rfl (by omega)) ?_
 refine s_run rfl rfl (r_pkF (v := .bool _) rfl rfl) ?_
 refine k_nc ?_
 refine k_f rfl ?_
 refine k_skip ?_
 refine c_norm ?_
 refine k_sg ?_
 refine s_run rfl rfl (rmp rfl) ?_
 refine s_run rfl rfl (rmi rfl) ?_
 refine s_run rfl rfl (rmi rfl) ?_
 refine s_run rfl rfl (r_nc rfl) ?_
 refine s_run rfl rfl (r_fa0 rfl fo149_3) ?_
 refine s_run rfl rfl (r_ia1 rfl rfl rfl (by omega) Try.underlying87 sz3) ?_
 refine s_st (u := .int _ _) H 0 rfl rfl rfl rfl hv rfl sz3 ?_
 clear H; intro _ H; simp only [jA, jB, jC, jD, jE, jF, jG, jH, jI, jJ, jK, Nat.reduceAdd] at H
 refine k_nc ?_
 refine k_sg ?_
 refine s_run rfl rfl (rai rfl) ?_
 refine k_nc ?_
 refine k_ret ?_
 refine fin1r (v := .int _ _) rfl rfl ?_
 rw [tab_set hR] at H
 exact ⟨rfl, by rw [Int.toNat_natCast]; exact H⟩
theorem tWorking (t gp : Nat) (E k : Int) (R V : List Int) (w : World) (hE : Ents [blk t (tabC gp E R k V) 149] w) (hR : R.length = 8) (hV : V.length = 8) :
  Calls Try.prog 103 [ptr t].toArray w fun e w' => e = .returned (.agg (V.map (Value.int .i64)).toArray) ∧ Only [] w w' := by
 obtain ⟨r0, r1, r2, r3, r4, r5, r6, r7, rfl⟩ := list8 hR
 obtain ⟨v0, v1, v2, v3, v4, v5, v6, v7, rfl⟩ := list8 hV
 rw [tabE] at hE
 have HR := Heap.start hE
 have H := Heap.nil w
 refine k_in (N := 7) Try.func103 rfl rfl rfl ?_
 refine k_sg ?_
 refine s_al H rfl inf87 ?_
 intro p2 _ H'; clear H; have H := H'; clear H'
 refine k_nc ?_
 refine k_sg ?_
 refine s_run rfl rfl (rmp rfl) ?_
 refine s_run rfl rfl (r_nc rfl) ?_
 refine s_run rfl rfl (r_fa0 rfl fo149_3) ?_
 refine s_run rfl rfl (r_lp (HR.same H.only) 0 (vs := [.int .i64 v0, .int .i64 v1, .int .i64 v2, .int .i64 v3, .int .i64 v4, .int .i64 v5, .int .i64 v6, .int .i64 v7]) rfl rfl rfl rfl ag87 sz87) ?_
 refine s_sw H 0 rfl rfl rfl rfl rfl rfl rfl sz87 ?_
 clear H; intro _ H; simp only [jA, jB, jC, jD, jE, jF, jG, jH, jI, jJ, jK, Nat.reduceAdd] at H
 refine k_nc ?_
 refine k_ret ?_
 refine fx1r rfl (rv_a H 0 rfl rfl rfl ag87 sz87) ?_
 exact ⟨rfl, H.only⟩
theorem tLasting (t gp : Nat) (E k : Int) (R V : List Int) (w : World) (hE : Ents [blk t (tabC gp E R k V) 149] w) (hR : R.length = 8) (hV : V.length = 8) :
  Calls Try.prog 96 [ptr t].toArray w fun e w' => e = .returned (.agg (R.map (Value.int .i64)).toArray) ∧ Only [] w w' := by
 obtain ⟨r0, r1, r2, r3, r4, r5, r6, r7, rfl⟩ := list8 hR
 obtain ⟨v0, v1, v2, v3, v4, v5, v6, v7, rfl⟩ := list8 hV
 rw [tabE] at hE
 have HR := Heap.start hE
 have H := Heap.nil w
 refine k_in (N := 8) Try.func96 rfl rfl rfl ?_
 refine k_sg ?_
 refine s_al H rfl inf87 ?_
 intro p2 _ H'; clear H; have H := H'; clear H'
 refine k_nc ?_
 refine k_sg ?_
 refine s_run rfl rfl (rmp rfl) ?_
 refine s_run rfl rfl (r_nc rfl) ?_
 refine s_run rfl rfl (r_fa0 rfl fo149_1) ?_
 refine s_run rfl rfl (r_fa rfl fo144_1) ?_
 refine s_run rfl rfl (r_lp (HR.same H.only) 0 (vs := [.int .i64 r0, .int .i64 r1, .int .i64 r2, .int .i64 r3, .int .i64 r4, .int .i64 r5, .int .i64 r6, .int .i64 r7]) rfl rfl rfl rfl ag87 sz87) ?_
 refine s_sw H 0 rfl rfl rfl rfl rfl rfl rfl sz87 ?_
 clear H; intro _ H; simp only [jA, jB, jC, jD, jE, jF, jG, jH, jI, jJ, jK, Nat.reduceAdd] at H
 refine k_nc ?_
 refine k_ret ?_
 refine fx1r rfl (rv_a H 0 rfl rfl rfl ag87 sz87) ?_
 exact ⟨rfl, H.only⟩
theorem tEpoch (t gp : Nat) (E k : Int) (R V : List Int) (w : World) (hE : Ents [blk t (tabC gp E R k V) 149] w) :
  Calls Try.prog 95 [ptr t].toArray w fun e w' => e = .returned (.int .u64 E) ∧ Only [] w w' := by
 have HR := Heap.start hE
 have H := Heap.nil w
 refine k_in (N := 8) Try.func95 rfl rfl rfl ?_
 refine k_sg ?_
 refine s_run rfl rfl (rai rfl) ?_
 refine k_nc ?_
 refine k_sg ?_
 refine s_run rfl rfl (rmp rfl) ?_
 refine s_run rfl rfl (r_nc rfl) ?_
 refine s_run rfl rfl (r_fa0 rfl fo149_1) ?_
 refine s_run rfl rfl (r_fa rfl fo144_0) ?_
 refine s_run rfl rfl (r_lo (HR.same H.only) 0 rfl rfl rfl ag22) ?_
 refine s_run rfl rfl (rai rfl) ?_
 refine k_nc ?_
 refine k_ret ?_
 refine fin1r (v := .int _ _) rfl rfl ?_
 exact ⟨rfl, H.only⟩
theorem tChanged (t gp : Nat) (E k : Int) (R V : List Int) (w : World) (hE : Ents [blk t (tabC gp E R k V) 149] w) (hR : R.length = 8) (hV : V.length = 8) :
  Calls Try.prog 104 [ptr t].toArray w fun e w' => e = .returned (.bool (!eqB V R)) ∧ Only [] w w' := by
 obtain ⟨r0, r1, r2, r3, r4, r5, r6, r7, rfl⟩ := list8 hR
 obtain ⟨v0, v1, v2, v3, v4, v5, v6, v7, rfl⟩ := list8 hV
 rw [tabE] at hE
 have HR := Heap.start hE
 have H := Heap.nil w
 refine k_in (N := 13) Try.func104 rfl rfl rfl ?_
 refine k_sg ?_
 refine s_run rfl rfl (rab rfl) ?_
 refine k_nc ?_
 refine k_seq ?_
 refine k_q mixed (by kernel_rfl) H ?_
 refine q_run rfl rfl (fun _ H => r_mv (v := .pointer _) rfl) ?_
 refine q_run rfl rfl (fun _ H => r_nc rfl) ?_
 refine q_run rfl rfl (fun _ H => r_fa0 rfl fo149_3) ?_
 refine q_run rfl rfl (fun _ H => r_lp (HR.same H.only) 0 (vs := [.int .i64 v0, .int .i64 v1, .int .i64 v2, .int .i64 v3, .int .i64 v4, .int .i64 v5, .int .i64 v6, .int .i64 v7]) rfl rfl rfl rfl ag87 sz87) ?_
 refine q_run rfl rfl (fun _ H => r_mv (v := .pointer _) rfl) ?_
 refine q_run rfl rfl (fun _ H => r_nc rfl) ?_
 refine q_run rfl rfl (fun _ H => r_fa0 rfl fo149_1) ?_
 refine q_run rfl rfl (fun _ H => r_fa rfl fo144_1) ?_
 refine q_run rfl rfl (fun _ H => r_lp (HR.same H.only) 0 (vs := [.int .i64 r0, .int .i64 r1, .int .i64 r2, .int .i64 r3, .int .i64 r4, .int .i64 r5, .int .i64 r6, .int .i64 r7]) rfl rfl rfl rfl ag87 sz87) ?_
 refine q_run rfl rfl (fun _ H => r_arrB (q := !eqB [v0, v1, v2, v3, v4, v5, v6, v7] [r0, r1, r2, r3, r4, r5, r6, r7]) (xs := [v0, v1, v2, v3, v4, v5, v6, v7]) (ys := [r0, r1, r2, r3, r4, r5, r6, r7]) rfl rfl rfl rfl Try.underlying87 Try.underlying3 ⟨_, _, _, inf3⟩ (by kernel_rfl) (by kernel_rfl) rfl) ?_
 refine q_run rfl rfl (fun _ H => r_as (v := .bool _) rfl) ?_
 refine q_nil ?_
 intro _ H'; clear H; have H := H'; clear H'
 refine c_norm ?_
 refine k_ret ?_
 refine fin1r (v := .bool _) rfl rfl ?_
 exact ⟨rfl, H.only⟩
end Go.Proofs.Ytmekhdclnhhhbaa
end

section
namespace Go.Proofs.Ytmekhdclnhhhbaa
open Go.RowKit
theorem tEnc (E : Int) (R : List Int) (w : World) (hl : R.length = 8) (hE : U64s E) (hR : ∀ r ∈ R, I64 r) :
  Calls Try.prog 122 [.agg (.int .u64 E :: R.map (Value.int .i64)).toArray].toArray w fun e w' => e = .returned (.agg ((encL E R).map (Value.int .u64)).toArray) ∧ Only [] w w' :=
 (slEnc_any E R w hl hE hR).mono fun _ _ h => ⟨h.1, Only.of_below h.2 _⟩
theorem rtEnc (E : Int) (R : List Int) (w : World) (hl : R.length = 8) (hE : U64s E) (hR : ∀ r ∈ R, I64 r) :
  Calls Try.prog 116 [.agg (.int .u64 E :: R.map (Value.int .i64)).toArray].toArray w fun e w' => e = .returned (.agg ((encL E R).map (Value.int .u64)).toArray) ∧ Only [] w w' :=
 (rslEnc_any E R w hl hE hR).mono fun _ _ h => ⟨h.1, Only.of_below h.2 _⟩
theorem allU (ws : List Int) : (ws.map (Value.int .u64)).all (·.oneCell') = true := by simp [Value.oneCell']
theorem getU {ws : List Int} {k : Nat} (h : k < ws.length) : (ws.map (Value.int .u64))[k]? = some (.int .u64 (ws.getD k 0)) := by
 rw [List.getElem?_map, List.getElem?_eq_getElem h, List.getD_eq_getElem?_getD, List.getElem?_eq_getElem h]; rfl
theorem tWrite (g : Geo) (d : Nv.D) (m i : Nat) (E : Int) (R : List Int) (w : World) (hE : Ents (devL g d) w) (hI : Nv.Inv d m) (hg : GOk g m) (hm : m ≤ 100000) (hi : i = 0 ∨ i = 1) (hl : R.length = 8) (hEp : U64s E) (hR : ∀ r ∈ R, I64 r) :
  Calls Try.prog 115 [ptr g.p, .int .i64 i, .agg (.int .u64 E :: R.map (Value.int .i64)).toArray].toArray w fun e w' => e = .returned (.int .i64 (Nv.wr d m (64 + 64 * i) (encL E R)).2) ∧ Heap w (ids (devL g d)) (devL g (Nv.wr d m (64 + 64 * i) (encL E R)).1) w' := by
 have H := grp_start hE
 have hS := fun w => tSlotAt i w hi
 have hEn := fun w => tEnc E R w hl hEp hR
 have hw := encL_len E R
 have hab : 64 + 64 * i ≤ 128 := by omega
 obtain ⟨r0, r1, r2, r3, r4, r5, r6, r7, rfl⟩ := list8 hl
 simp only [List.map_cons, List.map_nil] at hEn ⊢
 generalize 64 + 64 * i = a at *
 generalize encL E [r0, r1, r2, r3, r4, r5, r6, r7] = ws at *
 refine k_in (N := 54) Try.func115 rfl rfl rfl ?_
 refine k_sg ?_
 refine s_box H rfl rfl ?_
 intro p5 _ H'; clear H; have H := H'; clear H'
 refine s_run rfl rfl (rai rfl) ?_
 refine k_nc ?_
 refine k_sg ?_
 refine s_run rfl rfl (rmi rfl) ?_
 refine s_call rfl (hS _) (ca119 rfl) ?_
 rintro e W1 ⟨rfl, H'⟩
 refine ⟨_, rfl, ?_⟩
 have H := H.same H'; clear H'
 refine s_run rfl rfl (rai rfl) ?_
 refine k_nc ?_
 refine k_sg ?_
 refine s_run rfl rfl (r_la H 0 rfl rfl rfl ag144 sz144) ?_
 refine s_call rfl (hEn _) (ca122 rfl) ?_
 rintro e W1 ⟨rfl, H'⟩
 refine ⟨_, rfl, ?_⟩
 have H := H.same H'; clear H'
 refine s_al H rfl inf99 ?_
 intro p8 _ H'; clear H; have H := H'; clear H'
 refine s_sw H 0 rfl rfl rfl rfl (by rw [List.length_map]; exact hw) (allU ws) rfl sz99 ?_
 clear H; intro _ H; simp only [jA, jB, jC, jD, jE, jF, jG, jH, jI, jJ, jK, Nat.reduceAdd] at H
 refine k_nc ?_
 refine k_seq ?_
 refine k_sg ?_
 refine s_run rfl rfl (r_la H 0 rfl rfl (by rw [List.length_map]; exact hw) ag99 sz99) ?_
 refine s_run rfl rfl (rmi rfl) ?_
 refine k_nc ?_
 refine k_b ?_
 have hI0 := fun k => hI.wrTo a ws k
 refine k_loop (fun z f W => ∃ k : Nat, k ≤ 16 ∧ z = 16 - k ∧ (Nv.wrTo d m a ws (Nv.cnt k)).2 = 0 ∧ f 0 = ptr g.p ∧ f 7 = .int .i64 a ∧ f 8 = ptr p8 ∧ f 18 = .agg (ws.map (Value.int .u64)).toArray ∧ f 19 = .int .i64 k ∧ Heap w (ids (devL g d)) [blk p8 (ws.map (Value.int .u64)) 99, blk p5 [.int .u64 E, .int .i64 r0, .int .i64 r1, .int .i64 r2, .int .i64 r3, .int .i64 r4, .int .i64 r5, .int .i64 r6, .int .i64 r7] 144, grp (devL g (Nv.wrTo d m a ws (Nv.cnt k)).1)] W) 16 ⟨0, by omega, rfl, rfl, rfl, rfl, rfl, rfl, rfl, H⟩ ?_
 clear H
 rintro z f W ⟨k, hk, rfl, hc0, f0, f7, f8, f18, f19, H⟩
 obtain ⟨f, rfl⟩ := live5 f0 f7 f8 f18 f19
 clear f0 f7 f8 f18 f19
 by_cases hlt : k < 16
 ·have hz := getU (ws := ws) (k := k) (by omega)
  by_cases h8 : k % 8 = 0
  ·rw [← Nv.cnt_skip k hlt h8] at H hc0
   refine k_sg ?_
   refine s_run rfl rfl (r_lssT rfl rfl (by omega)) ?_
   refine k_nc ?_
   refine k_seq ?_
   refine k_t rfl ?_
   refine k_skip ?_
   refine c_norm ?_
   refine k_seq ?_
   refine k_b ?_
   refine k_sg ?_
   refine s_run rfl rfl (rmi rfl) ?_
   refine s_run rfl rfl (r_iv (i := k) (v := .int .u64 (ws.getD k 0)) rfl rfl rfl hlt hz Try.underlying99 sz22 ag22) ?_
   refine s_run rfl rfl (rai rfl) ?_
   refine s_run rfl rfl (rai rfl) ?_
   refine k_nc ?_
   refine k_seq ?_
   refine k_sg ?_
   refine s_run rfl rfl (rmi rfl) ?_
   refine s_run rfl rfl (r_rem rfl rfl (by omega)) ?_
   refine s_run rfl rfl (r_eqlT rfl rfl (by omega)) ?_
   refine k_nc ?_
   refine k_t rfl ?_
   refine k_exit ?_
   refine c_exit ?_
   refine b_hit ?_
   refine c_norm ?_
   refine k_rg ?_
   refine s_run rfl rfl (r_add rfl rfl (wI (by omega))) ?_
   refine s_run rfl rfl (rmi rfl) ?_
   refine k_nil ?_
   refine c_round ?_
   refine ⟨_, _, ?_, rfl, k + 1, by omega, rfl, hc0, rfl, rfl, rfl, rfl, rfl, H⟩
   omega
  ·obtain ⟨ho, hcn⟩ := Nv.cnt_at k hlt h8
   have hsu := Nv.wrTo_succ d m a ws (Nv.cnt k) hc0
   rw [ho, ← hcn] at hsu
   have hSt := fun W hE => nStore g (Nv.wrTo d m a ws (Nv.cnt k)).1 m ((a : Int) + (k : Int)) (ws.getD k 0) W hE (hI0 _).ok hm
   rw [← hsu] at hSt
   by_cases hcode : (Nv.wrTo d m a ws (Nv.cnt (k + 1))).2 = 0
   ·refine k_sg ?_
    refine s_run rfl rfl (r_lssT rfl rfl (by omega)) ?_
    refine k_nc ?_
    refine k_seq ?_
    refine k_t rfl ?_
    refine k_skip ?_
    refine c_norm ?_
    refine k_seq ?_
    refine k_b ?_
    refine k_sg ?_
    refine s_run rfl rfl (rmi rfl) ?_
    refine s_run rfl rfl (r_iv (i := k) (v := .int .u64 (ws.getD k 0)) rfl rfl rfl hlt hz Try.underlying99 sz22 ag22) ?_
    refine s_run rfl rfl (rai rfl) ?_
    refine s_run rfl rfl (rai rfl) ?_
    refine k_nc ?_
    refine k_seq ?_
    refine k_sg ?_
    refine s_run rfl rfl (rmi rfl) ?_
    refine s_run rfl rfl (r_rem rfl rfl (by omega)) ?_
    refine s_run rfl rfl (r_eqlF rfl rfl (by omega)) ?_
    refine k_nc ?_
    refine k_f rfl ?_
    refine k_skip ?_
    refine c_norm ?_
    refine k_sg ?_
    refine s_run rfl rfl (rmp rfl) ?_
    refine s_run rfl rfl (rmi rfl) ?_
    refine s_run rfl rfl (rmi rfl) ?_
    refine s_run rfl rfl (r_add rfl rfl (wI (by omega))) ?_
    refine s_run rfl rfl (rmi rfl) ?_
    refine s_call rfl (hSt _ (H.grp_ents 2 rfl)) (ca30 rfl) ?_
    rintro e W1 ⟨rfl, H'⟩
    refine ⟨_, rfl, ?_⟩
    have H1 := H.grp_at 2 rfl H'; clear H H'; have H := H1; clear H1; simp only [List.set_cons_succ, List.set_cons_zero] at H
    refine s_run rfl rfl (rai rfl) ?_
    refine k_nc ?_
    refine k_sg ?_
    refine s_run rfl rfl (rmi rfl) ?_
    refine s_run rfl rfl (r_neqF rfl rfl (by omega)) ?_
    refine k_nc ?_
    refine k_f rfl ?_
    refine k_skip ?_
    refine b_norm ?_
    refine c_norm ?_
    refine k_rg ?_
    refine s_run rfl rfl (r_add rfl rfl (wI (by omega))) ?_
    refine s_run rfl rfl (rmi rfl) ?_
    refine k_nil ?_
    refine c_round ?_
    refine ⟨_, _, ?_, rfl, k + 1, by omega, rfl, hcode, rfl, rfl, rfl, rfl, rfl, H⟩
    omega
   ·rw [Nv.wr_stuck d m a ws (Nv.cnt (k + 1)) (by unfold Nv.cnt; omega) hcode]
    refine k_sg ?_
    refine s_run rfl rfl (r_lssT rfl rfl (by omega)) ?_
    refine k_nc ?_
    refine k_seq ?_
    refine k_t rfl ?_
    refine k_skip ?_
    refine c_norm ?_
    refine k_seq ?_
    refine k_b ?_
    refine k_sg ?_
    refine s_run rfl rfl (rmi rfl) ?_
    refine s_run rfl rfl (r_iv (i := k) (v := .int .u64 (ws.getD k 0)) rfl rfl rfl hlt hz Try.underlying99 sz22 ag22) ?_
    refine s_run rfl rfl (rai rfl) ?_
    refine s_run rfl rfl (rai rfl) ?_
    refine k_nc ?_
    refine k_seq ?_
    refine k_sg ?_
    refine s_run rfl rfl (rmi rfl) ?_
    refine s_run rfl rfl (r_rem rfl rfl (by omega)) ?_
    refine s_run rfl rfl (r_eqlF rfl rfl (by omega)) ?_
    refine k_nc ?_
    refine k_f rfl ?_
    refine k_skip ?_
    refine c_norm ?_
    refine k_sg ?_
    refine s_run rfl rfl (rmp rfl) ?_
    refine s_run rfl rfl (rmi rfl) ?_
    refine s_run rfl rfl (rmi rfl) ?_
    refine s_run rfl rfl (r_add rfl rfl (wI (by omega))) ?_
    refine s_run rfl rfl (rmi rfl) ?_
    refine s_call rfl (hSt _ (H.grp_ents 2 rfl)) (ca30 rfl) ?_
    rintro e W1 ⟨rfl, H'⟩
    refine ⟨_, rfl, ?_⟩
    have H1 := H.grp_at 2 rfl H'; clear H H'; have H := H1; clear H1; simp only [List.set_cons_succ, List.set_cons_zero] at H
    refine s_run rfl rfl (rai rfl) ?_
    refine k_nc ?_
    refine k_sg ?_
    refine s_run rfl rfl (rmi rfl) ?_
    refine s_run rfl rfl (r_neqT rfl rfl (by omega)) ?_
    refine k_nc ?_
    refine k_t rfl ?_
    refine k_sg ?_
    refine s_run rfl rfl (rmi rfl) ?_
    refine s_run rfl rfl (rai rfl) ?_
    refine k_nc ?_
    refine k_ret ?_
    refine b_ret ?_
    refine c_ret ?_
    refine c_ret ?_
    refine b_ret ?_
    refine c_ret ?_
    refine fin1r (v := .int _ _) rfl rfl ?_
    exact ⟨rfl, grp_open H.drop.drop⟩
 ·obtain rfl : k = 16 := by omega
  have c16 : Nv.cnt 16 = 14 := rfl
  rw [c16] at H hc0
  refine k_sg ?_
  refine s_run rfl rfl (r_lssF rfl rfl (by omega)) ?_
  refine k_nc ?_
  refine k_seq ?_
  refine k_f rfl ?_
  refine k_exit ?_
  refine c_exit ?_
  refine c_exit ?_
  refine b_hit ?_
  refine c_norm ?_
  refine k_seq ?_
  refine k_sg ?_
  refine s_run rfl rfl (rai rfl) ?_
  refine k_nc ?_
  refine k_b ?_
  refine k_loop (fun z f W => ∃ j : Nat, j ≤ 2 ∧ z = 2 - j ∧ (Nv.wrTo d m a ws (14 + j)).2 = 0 ∧ f 0 = ptr g.p ∧ f 7 = .int .i64 a ∧ f 8 = ptr p8 ∧ f 12 = .int .i64 ((8 * j : Nat) : Int) ∧ Heap w (ids (devL g d)) [blk p8 (ws.map (Value.int .u64)) 99, blk p5 [.int .u64 E, .int .i64 r0, .int .i64 r1, .int .i64 r2, .int .i64 r3, .int .i64 r4, .int .i64 r5, .int .i64 r6, .int .i64 r7] 144, grp (devL g (Nv.wrTo d m a ws (14 + j)).1)] W) 2 ⟨0, by omega, rfl, hc0, rfl, rfl, rfl, rfl, H⟩ ?_
  clear H
  rintro z f W ⟨j, hj, rfl, hc0, f0, f7, f8, f12, H⟩
  obtain ⟨f, rfl⟩ := live4 f0 f7 f8 f12
  clear f0 f7 f8 f12
  by_cases hlt2 : j < 2
  ·have hz := getU (ws := ws) (k := 8 * j) (by omega)
   have ho : Nv.order.getD (14 + j) 0 = 8 * j := by
    rcases (show j = 0 ∨ j = 1 by omega) with rfl | rfl <;> rfl
   have hsu := Nv.wrTo_succ d m a ws (14 + j) hc0
   rw [ho] at hsu
   have hSt := fun W hE => nStore g (Nv.wrTo d m a ws (14 + j)).1 m ((a : Int) + ((8 * j : Nat) : Int)) (ws.getD (8 * j) 0) W hE (hI0 _).ok hm
   rw [← hsu] at hSt
   by_cases hcode : (Nv.wrTo d m a ws (14 + j + 1)).2 = 0
   ·refine k_seq ?_
    refine k_sg ?_
    refine s_run rfl rfl (rmi rfl) ?_
    refine s_run rfl rfl (r_lssT rfl rfl (by omega)) ?_
    refine k_nc ?_
    refine k_t rfl ?_
    refine k_skip ?_
    refine c_norm ?_
    refine k_seq ?_
    refine k_b ?_
    refine k_sg ?_
    refine s_run rfl rfl (rmp rfl) ?_
    refine s_run rfl rfl (rmi rfl) ?_
    refine s_run rfl rfl (rmi rfl) ?_
    refine s_run rfl rfl (r_add rfl rfl (wI (by omega))) ?_
    refine s_run rfl rfl (rmi rfl) ?_
    refine s_run rfl rfl (r_ia0 (i := 8 * j) rfl rfl (by omega) (by omega) Try.underlying99 sz22) ?_
    refine s_run rfl rfl (r_lo H 0 rfl rfl hz ag22) ?_
    refine s_call rfl (hSt _ (H.grp_ents 2 rfl)) (ca30 rfl) ?_
    rintro e W1 ⟨rfl, H'⟩
    refine ⟨_, rfl, ?_⟩
    have H1 := H.grp_at 2 rfl H'; clear H H'; have H := H1; clear H1; simp only [List.set_cons_succ, List.set_cons_zero] at H
    refine s_run rfl rfl (rai rfl) ?_
    refine k_nc ?_
    refine k_sg ?_
    refine s_run rfl rfl (rmi rfl) ?_
    refine s_run rfl rfl (r_neqF rfl rfl (by omega)) ?_
    refine k_nc ?_
    refine k_f rfl ?_
    refine k_skip ?_
    refine b_norm ?_
    refine c_norm ?_
    refine k_rg ?_
    refine s_run rfl rfl (rmi rfl) ?_
    refine s_run rfl rfl (r_add rfl rfl (wI (by omega))) ?_
    refine s_run rfl rfl (rai rfl) ?_
    refine k_nil ?_
    refine c_round ?_
    refine ⟨_, _, ?_, rfl, j + 1, by omega, rfl, hcode, rfl, rfl, rfl, ?_, H⟩
    ·omega
    ·exact congrArg (Value.int .i64) (by omega)
   ·rw [Nv.wr_stuck d m a ws (14 + j + 1) (by omega) hcode]
    refine k_seq ?_
    refine k_sg ?_
    refine s_run rfl rfl (rmi rfl) ?_
    refine s_run rfl rfl (r_lssT rfl rfl (by omega)) ?_
    refine k_nc ?_
    refine k_t rfl ?_
    refine k_skip ?_
    refine c_norm ?_
    refine k_seq ?_
    refine k_b ?_
    refine k_sg ?_
    refine s_run rfl rfl (rmp rfl) ?_
    refine s_run rfl rfl (rmi rfl) ?_
    refine s_run rfl rfl (rmi rfl) ?_
    refine s_run rfl rfl (r_add rfl rfl (wI (by omega))) ?_
    refine s_run rfl rfl (rmi rfl) ?_
    refine s_run rfl rfl (r_ia0 (i := 8 * j) rfl rfl (by omega) (by omega) Try.underlying99 sz22) ?_
    refine s_run rfl rfl (r_lo H 0 rfl rfl hz ag22) ?_
    refine s_call rfl (hSt _ (H.grp_ents 2 rfl)) (ca30 rfl) ?_
    rintro e W1 ⟨rfl, H'⟩
    refine ⟨_, rfl, ?_⟩
    have H1 := H.grp_at 2 rfl H'; clear H H'; have H := H1; clear H1; simp only [List.set_cons_succ, List.set_cons_zero] at H
    refine s_run rfl rfl (rai rfl) ?_
    refine k_nc ?_
    refine k_sg ?_
    refine s_run rfl rfl (rmi rfl) ?_
    refine s_run rfl rfl (r_neqT rfl rfl (by omega)) ?_
    refine k_nc ?_
    refine k_t rfl ?_
    refine k_sg ?_
    refine s_run rfl rfl (rmi rfl) ?_
    refine s_run rfl rfl (rai rfl) ?_
    refine k_nc ?_
    refine k_ret ?_
    refine b_ret ?_
    refine c_ret ?_
    refine c_ret ?_
    refine b_ret ?_
    refine c_ret ?_
    refine fin1r (v := .int _ _) rfl rfl ?_
    exact ⟨rfl, grp_open H.drop.drop⟩
  ·obtain rfl : j = 2 := by omega
   have c2 : 14 + 2 = 16 := rfl
   rw [c2] at H hc0
   rw [Nv.wr_end d m a ws hc0]
   have hP := fun W hE => nPersist g (Nv.wrTo d m a ws 16).1 m a 16 W hE (hI0 _).ok hg hm
   refine k_seq ?_
   refine k_sg ?_
   refine s_run rfl rfl (rmi rfl) ?_
   refine s_run rfl rfl (r_lssF rfl rfl (by omega)) ?_
   refine k_nc ?_
   refine k_f rfl ?_
   refine k_exit ?_
   refine c_exit ?_
   refine c_exit ?_
   refine b_hit ?_
   refine c_norm ?_
   refine k_sg ?_
   refine s_run rfl rfl (rmp rfl) ?_
   refine s_run rfl rfl (rmi rfl) ?_
   refine s_call rfl (hP _ (H.grp_ents 2 rfl)) (ca38 rfl) ?_
   rintro e W1 ⟨rfl, H'⟩
   refine ⟨_, rfl, ?_⟩
   have H1 := H.grp_at 2 rfl H'; clear H H'; have H := H1; clear H1; simp only [List.set_cons_succ, List.set_cons_zero] at H
   refine s_run rfl rfl (rai rfl) ?_
   refine k_nc ?_
   refine k_ret ?_
   refine fin1r (v := .int _ _) rfl rfl ?_
   exact ⟨rfl, grp_open H.drop.drop⟩
theorem tFormat (g : Geo) (d : Nv.D) (m : Nat) (w : World) (hE : Ents (devL g d) w) (hI : Nv.Inv d m) (hg : GOk g m) (hm : m ≤ 100000) :
  Calls Try.prog 97 [ptr g.p].toArray w fun e w' => e = .returned (.int .i64 (Nv.wr d m 64 (encL 1 [0, 0, 0, 0, 0, 0, 0, 0])).2) ∧ Heap w (ids (devL g d)) (devL g (Nv.wr d m 64 (encL 1 [0, 0, 0, 0, 0, 0, 0, 0])).1) w' := by
 have H := grp_start hE
 have hW := fun W hE => tWrite g d m 0 1 [0, 0, 0, 0, 0, 0, 0, 0] W hE hI hg hm (.inl rfl) rfl ⟨by omega, by omega⟩ (by intro r hr; simp at hr; subst hr; exact ⟨by omega, by omega⟩)
 simp only [List.map_cons, List.map_nil, Nat.mul_zero, Nat.add_zero] at hW
 refine k_in (N := 6) Try.func97 rfl rfl rfl ?_
 refine k_sg ?_
 refine s_run rfl rfl (rai rfl) ?_
 refine k_nc ?_
 refine k_sg ?_
 refine s_run rfl rfl (rmp rfl) ?_
 refine s_run rfl rfl (r_bd (bd144_0 _) rfl) ?_
 refine s_call rfl (hW _ (H.grp_ents 0 rfl)) (ca115 rfl) ?_
 rintro e W1 ⟨rfl, H'⟩
 refine ⟨_, rfl, ?_⟩
 have H1 := H.grp_at 0 rfl H'; clear H H'; have H := H1; clear H1; simp only [List.set_cons_succ, List.set_cons_zero] at H
 refine s_run rfl rfl (rai rfl) ?_
 refine k_nc ?_
 refine k_ret ?_
 refine fin1r (v := .int _ _) rfl rfl ?_
 exact ⟨rfl, grp_open H⟩
end Go.Proofs.Ytmekhdclnhhhbaa
end

section
namespace Go.Proofs.Ytmekhdclnhhhbaa
open Go.RowKit
theorem tWipe (t : Nat) (g : Geo) (d : Nv.D) (m i : Nat) (E k : Int) (R V : List Int) (w : World) (hE : Ents [blk t (tabC g.p E R k V) 149, grp (devL g d)] w) (hI : Nv.Inv d m) (hg : GOk g m) (hm : m ≤ 100000) (hi : i = 0 ∨ i = 1) :
  Calls Try.prog 114 [ptr t, .int .i64 i].toArray w fun e w' => e = .returned (.int .i64 (Nv.wi d m (64 + 64 * i) E).2) ∧ Heap w (ids [blk t (tabC g.p E R k V) 149, grp (devL g d)]) [blk t (tabC g.p E R k V) 149, grp (devL g (Nv.wi d m (64 + 64 * i) E).1)] w' := by
 have H := Heap.start hE
 generalize ids [blk t (tabC g.p E R k V) 149, grp (devL g d)] = FF at *
 have hS := fun w => tSlotAt i w hi
 have hab : 64 + 64 * i ≤ 128 := by omega
 generalize 64 + 64 * i = a at *
 have h0 : (tabC g.p E R k V)[0]? = some (ptr g.p) := rfl
 have h1 : (tabC g.p E R k V)[1]? = some (.int .u64 E) := rfl
 generalize tabC g.p E R k V = cs at *
 by_cases c1 : Nv.get d.cache a ≤ E
 ·by_cases c2 : Nv.get d.cache ((a : Int) + 8) ≤ E
  ·rw [Nv.wi_no d m a E ⟨c1, c2⟩]
   refine k_in (N := 58) Try.func114 rfl rfl rfl ?_
   refine k_sg ?_
   refine s_run rfl rfl (rai rfl) ?_
   refine k_nc ?_
   refine k_sg ?_
   refine s_run rfl rfl (rmi rfl) ?_
   refine s_call rfl (hS _) (ca119 rfl) ?_
   rintro e W1 ⟨rfl, H'⟩
   refine ⟨_, rfl, ?_⟩
   have H := H.same H'; clear H'
   refine s_run rfl rfl (rai rfl) ?_
   refine k_nc ?_
   refine k_seq ?_
   refine k_seq ?_
   refine k_q mixed (by kernel_rfl) H ?_
   refine q_run rfl rfl (fun _ H => r_mv (v := .pointer _) rfl) ?_
   refine q_run rfl rfl (fun _ H => r_nc rfl) ?_
   refine q_run rfl rfl (fun _ H => r_fa0 rfl fo149_0) ?_
   refine q_run rfl rfl (fun _ H => r_lo H 0 rfl rfl h0 ag26) ?_
   refine q_run rfl rfl (fun _ H => r_mv (v := .int _ _) rfl) ?_
   refine q_call rfl rfl (fun _ H => nGet g d a _ (H.grp_ents 1 rfl)) (ca25 rfl) ?_
   refine q_run rfl rfl (fun _ H => r_mv (v := .pointer _) rfl) ?_
   refine q_run rfl rfl (fun _ H => r_nc rfl) ?_
   refine q_run rfl rfl (fun _ H => r_fa0 rfl fo149_1) ?_
   refine q_run rfl rfl (fun _ H => r_fa rfl fo144_0) ?_
   refine q_run rfl rfl (fun _ H => r_lo H 0 rfl rfl h1 ag22) ?_
   refine q_run rfl rfl (fun _ H => r_leqT rfl rfl (by omega)) ?_
   refine q_run rfl rfl (fun _ H => r_mv (v := .bool _) rfl) ?_
   refine q_run rfl (g_on 22 (by kernel_rfl) rfl) (fun _ H => r_mv (v := .pointer _) rfl) ?_
   refine q_run rfl (g_on 22 (by kernel_rfl) rfl) (fun _ H => r_nc rfl) ?_
   refine q_run rfl (g_on 22 (by kernel_rfl) rfl) (fun _ H => r_fa0 rfl fo149_0) ?_
   refine q_run rfl (g_on 22 (by kernel_rfl) rfl) (fun _ H => r_lo H 0 rfl rfl h0 ag26) ?_
   refine q_run rfl (g_on 22 (by kernel_rfl) rfl) (fun _ H => r_mv (v := .int _ _) rfl) ?_
   refine q_run rfl (g_on 22 (by kernel_rfl) rfl) (fun _ H => r_add rfl rfl (wI (by omega))) ?_
   refine q_call rfl (g_on 22 (by kernel_rfl) rfl) (fun _ H => nGet g d ((a : Int) + 8) _ (H.grp_ents 1 rfl)) (ca25 rfl) ?_
   refine q_run rfl (g_on 22 (by kernel_rfl) rfl) (fun _ H => r_mv (v := .pointer _) rfl) ?_
   refine q_run rfl (g_on 22 (by kernel_rfl) rfl) (fun _ H => r_nc rfl) ?_
   refine q_run rfl (g_on 22 (by kernel_rfl) rfl) (fun _ H => r_fa0 rfl fo149_1) ?_
   refine q_run rfl (g_on 22 (by kernel_rfl) rfl) (fun _ H => r_fa rfl fo144_0) ?_
   refine q_run rfl (g_on 22 (by kernel_rfl) rfl) (fun _ H => r_lo H 0 rfl rfl h1 ag22) ?_
   refine q_run rfl (g_on 22 (by kernel_rfl) rfl) (fun _ H => r_leqT rfl rfl (by omega)) ?_
   refine q_run rfl rfl (fun _ H => r_pkT (v := .bool _) rfl rfl) ?_
   refine q_nil ?_
   intro _ H'; clear H; have H := H'; clear H'
   refine c_norm ?_
   refine k_t rfl ?_
   refine k_sg ?_
   refine s_run rfl rfl (rai rfl) ?_
   refine k_nc ?_
   refine k_ret ?_
   refine c_ret ?_
   refine fin1r (v := .int _ _) rfl rfl ?_
   exact ⟨rfl, H⟩
  ·have hno : ¬ (Nv.get d.cache a ≤ E ∧ Nv.get d.cache ((a : Int) + 8) ≤ E) := fun h => c2 h.2
   refine k_in (N := 58) Try.func114 rfl rfl rfl ?_
   refine k_sg ?_
   refine s_run rfl rfl (rai rfl) ?_
   refine k_nc ?_
   refine k_sg ?_
   refine s_run rfl rfl (rmi rfl) ?_
   refine s_call rfl (hS _) (ca119 rfl) ?_
   rintro e W1 ⟨rfl, H'⟩
   refine ⟨_, rfl, ?_⟩
   have H := H.same H'; clear H'
   refine s_run rfl rfl (rai rfl) ?_
   refine k_nc ?_
   refine k_seq ?_
   refine k_seq ?_
   refine k_q mixed (by kernel_rfl) H ?_
   refine q_run rfl rfl (fun _ H => r_mv (v := .pointer _) rfl) ?_
   refine q_run rfl rfl (fun _ H => r_nc rfl) ?_
   refine q_run rfl rfl (fun _ H => r_fa0 rfl fo149_0) ?_
   refine q_run rfl rfl (fun _ H => r_lo H 0 rfl rfl h0 ag26) ?_
   refine q_run rfl rfl (fun _ H => r_mv (v := .int _ _) rfl) ?_
   refine q_call rfl rfl (fun _ H => nGet g d a _ (H.grp_ents 1 rfl)) (ca25 rfl) ?_
   refine q_run rfl rfl (fun _ H => r_mv (v := .pointer _) rfl) ?_
   refine q_run rfl rfl (fun _ H => r_nc rfl) ?_
   refine q_run rfl rfl (fun _ H => r_fa0 rfl fo149_1) ?_
   refine q_run rfl rfl (fun _ H => r_fa rfl fo144_0) ?_
   refine q_run rfl rfl (fun _ H => r_lo H 0 rfl rfl h1 ag22) ?_
   refine q_run rfl rfl (fun _ H => r_leqT rfl rfl (by omega)) ?_
   refine q_run rfl rfl (fun _ H => r_mv (v := .bool _) rfl) ?_
   refine q_run rfl (g_on 22 (by kernel_rfl) rfl) (fun _ H => r_mv (v := .pointer _) rfl) ?_
   refine q_run rfl (g_on 22 (by kernel_rfl) rfl) (fun _ H => r_nc rfl) ?_
   refine q_run rfl (g_on 22 (by kernel_rfl) rfl) (fun _ H => r_fa0 rfl fo149_0) ?_
   refine q_run rfl (g_on 22 (by kernel_rfl) rfl) (fun _ H => r_lo H 0 rfl rfl h0 ag26) ?_
   refine q_run rfl (g_on 22 (by kernel_rfl) rfl) (fun _ H => r_mv (v := .int _ _) rfl) ?_
   refine q_run rfl (g_on 22 (by kernel_rfl) rfl) (fun _ H => r_add rfl rfl (wI (by omega))) ?_
   refine q_call rfl (g_on 22 (by kernel_rfl) rfl) (fun _ H => nGet g d ((a : Int) + 8) _ (H.grp_ents 1 rfl)) (ca25 rfl) ?_
   refine q_run rfl (g_on 22 (by kernel_rfl) rfl) (fun _ H => r_mv (v := .pointer _) rfl) ?_
   refine q_run rfl (g_on 22 (by kernel_rfl) rfl) (fun _ H => r_nc rfl) ?_
   refine q_run rfl (g_on 22 (by kernel_rfl) rfl) (fun _ H => r_fa0 rfl fo149_1) ?_
   refine q_run rfl (g_on 22 (by kernel_rfl) rfl) (fun _ H => r_fa rfl fo144_0) ?_
   refine q_run rfl (g_on 22 (by kernel_rfl) rfl) (fun _ H => r_lo H 0 rfl rfl h1 ag22) ?_
   refine q_run rfl (g_on 22 (by kernel_rfl) rfl) (fun _ H => r_leqF rfl rfl (by omega)) ?_
   refine q_run rfl rfl (fun _ H => r_pkT (v := .bool _) rfl rfl) ?_
   refine q_nil ?_
   intro _ H'; clear H; have H := H'; clear H'
   refine c_norm ?_
   refine k_f rfl ?_
   refine k_skip ?_
   refine c_norm ?_
   refine k_seq ?_
   refine k_sg ?_
   refine s_run rfl rfl (rai rfl) ?_
   refine k_nc ?_
   refine k_b ?_
   refine k_loop (fun z f W => ∃ j : Nat, j ≤ 2 ∧ z = 2 - j ∧ (Nv.wiTo d m a j).2 = 0 ∧ f 0 = ptr t ∧ f 5 = .int .i64 a ∧ f 6 = .int .i64 ((8 * j : Nat) : Int) ∧ Heap w FF [blk t cs 149, grp (devL g (Nv.wiTo d m a j).1)] W) 2 ⟨0, by omega, rfl, rfl, rfl, rfl, rfl, H⟩ ?_
   clear H
   rintro z f W ⟨j, hj, rfl, hc0, f0, f5, f6, H⟩
   obtain ⟨f, rfl⟩ := live3 f0 f5 f6
   clear f0 f5 f6
   have hI0 := fun k => hI.wiTo a k
   by_cases hlt2 : j < 2
   ·have hsu := Nv.wiTo_succ d m a j hc0
    have ea : (a : Int) + 8 * (j : Int) = (a : Int) + ((8 * j : Nat) : Int) := by omega
    rw [ea] at hsu
    have hSt := fun W hE => nStore g (Nv.wiTo d m a j).1 m ((a : Int) + ((8 * j : Nat) : Int)) 0 W hE (hI0 _).ok hm
    rw [← hsu] at hSt
    by_cases hcode : (Nv.wiTo d m a (j + 1)).2 = 0
    ·refine k_seq ?_
     refine k_sg ?_
     refine s_run rfl rfl (rmi rfl) ?_
     refine s_run rfl rfl (r_lssT rfl rfl (by omega)) ?_
     refine k_nc ?_
     refine k_t rfl ?_
     refine k_skip ?_
     refine c_norm ?_
     refine k_seq ?_
     refine k_b ?_
     refine k_sg ?_
     refine s_run rfl rfl (rmp rfl) ?_
     refine s_run rfl rfl (r_nc rfl) ?_
     refine s_run rfl rfl (r_fa0 rfl fo149_0) ?_
     refine s_run rfl rfl (r_lo H 0 rfl rfl h0 ag26) ?_
     refine s_run rfl rfl (rmi rfl) ?_
     refine s_run rfl rfl (rmi rfl) ?_
     refine s_run rfl rfl (r_add rfl rfl (wI (by omega))) ?_
     refine s_call rfl (hSt _ (H.grp_ents 1 rfl)) (ca30 rfl) ?_
     rintro e W1 ⟨rfl, H'⟩
     refine ⟨_, rfl, ?_⟩
     have H1 := H.grp_at 1 rfl H'; clear H H'; have H := H1; clear H1; simp only [List.set_cons_succ, List.set_cons_zero] at H
     refine s_run rfl rfl (rai rfl) ?_
     refine k_nc ?_
     refine k_sg ?_
     refine s_run rfl rfl (rmi rfl) ?_
     refine s_run rfl rfl (r_neqF rfl rfl (by omega)) ?_
     refine k_nc ?_
     refine k_f rfl ?_
     refine k_skip ?_
     refine b_norm ?_
     refine c_norm ?_
     refine k_rg ?_
     refine s_run rfl rfl (rmi rfl) ?_
     refine s_run rfl rfl (r_add rfl rfl (wI (by omega))) ?_
     refine s_run rfl rfl (rai rfl) ?_
     refine k_nil ?_
     refine c_round ?_
     refine ⟨_, _, ?_, rfl, j + 1, by omega, rfl, hcode, rfl, rfl, ?_, H⟩
     ·omega
     ·exact congrArg (Value.int .i64) (by omega)
    ·rw [Nv.wi_stuck d m a E hno (j + 1) (by omega) hcode]
     refine k_seq ?_
     refine k_sg ?_
     refine s_run rfl rfl (rmi rfl) ?_
     refine s_run rfl rfl (r_lssT rfl rfl (by omega)) ?_
     refine k_nc ?_
     refine k_t rfl ?_
     refine k_skip ?_
     refine c_norm ?_
     refine k_seq ?_
     refine k_b ?_
     refine k_sg ?_
     refine s_run rfl rfl (rmp rfl) ?_
     refine s_run rfl rfl (r_nc rfl) ?_
     refine s_run rfl rfl (r_fa0 rfl fo149_0) ?_
     refine s_run rfl rfl (r_lo H 0 rfl rfl h0 ag26) ?_
     refine s_run rfl rfl (rmi rfl) ?_
     refine s_run rfl rfl (rmi rfl) ?_
     refine s_run rfl rfl (r_add rfl rfl (wI (by omega))) ?_
     refine s_call rfl (hSt _ (H.grp_ents 1 rfl)) (ca30 rfl) ?_
     rintro e W1 ⟨rfl, H'⟩
     refine ⟨_, rfl, ?_⟩
     have H1 := H.grp_at 1 rfl H'; clear H H'; have H := H1; clear H1; simp only [List.set_cons_succ, List.set_cons_zero] at H
     refine s_run rfl rfl (rai rfl) ?_
     refine k_nc ?_
     refine k_sg ?_
     refine s_run rfl rfl (rmi rfl) ?_
     refine s_run rfl rfl (r_neqT rfl rfl (by omega)) ?_
     refine k_nc ?_
     refine k_t rfl ?_
     refine k_sg ?_
     refine s_run rfl rfl (rmi rfl) ?_
     refine s_run rfl rfl (rai rfl) ?_
     refine k_nc ?_
     refine k_ret ?_
     refine b_ret ?_
     refine c_ret ?_
     refine c_ret ?_
     refine b_ret ?_
     refine c_ret ?_
     refine fin1r (v := .int _ _) rfl rfl ?_
     exact ⟨rfl, H⟩
   ·obtain rfl : j = 2 := by omega
    rw [Nv.wi_end d m a E hno hc0]
    have hP := fun W hE => nPersist g (Nv.wiTo d m a 2).1 m a 16 W hE (hI0 _).ok hg hm
    refine k_seq ?_
    refine k_sg ?_
    refine s_run rfl rfl (rmi rfl) ?_
    refine s_run rfl rfl (r_lssF rfl rfl (by omega)) ?_
    refine k_nc ?_
    refine k_f rfl ?_
    refine k_exit ?_
    refine c_exit ?_
    refine c_exit ?_
    refine b_hit ?_
    refine c_norm ?_
    refine k_sg ?_
    refine s_run rfl rfl (rmp rfl) ?_
    refine s_run rfl rfl (r_nc rfl) ?_
    refine s_run rfl rfl (r_fa0 rfl fo149_0) ?_
    refine s_run rfl rfl (r_lo H 0 rfl rfl h0 ag26) ?_
    refine s_run rfl rfl (rmi rfl) ?_
    refine s_call rfl (hP _ (H.grp_ents 1 rfl)) (ca38 rfl) ?_
    rintro e W1 ⟨rfl, H'⟩
    refine ⟨_, rfl, ?_⟩
    have H1 := H.grp_at 1 rfl H'; clear H H'; have H := H1; clear H1; simp only [List.set_cons_succ, List.set_cons_zero] at H
    refine s_run rfl rfl (rai rfl) ?_
    refine k_nc ?_
    refine k_ret ?_
    refine fin1r (v := .int _ _) rfl rfl ?_
    exact ⟨rfl, H⟩
 ·have hno : ¬ (Nv.get d.cache a ≤ E ∧ Nv.get d.cache ((a : Int) + 8) ≤ E) := fun h => c1 h.1
  refine k_in (N := 58) Try.func114 rfl rfl rfl ?_
  refine k_sg ?_
  refine s_run rfl rfl (rai rfl) ?_
  refine k_nc ?_
  refine k_sg ?_
  refine s_run rfl rfl (rmi rfl) ?_
  refine s_call rfl (hS _) (ca119 rfl) ?_
  rintro e W1 ⟨rfl, H'⟩
  refine ⟨_, rfl, ?_⟩
  have H := H.same H'; clear H'
  refine s_run rfl rfl (rai rfl) ?_
  refine k_nc ?_
  refine k_seq ?_
  refine k_seq ?_
  refine k_q mixed (by kernel_rfl) H ?_
  refine q_run rfl rfl (fun _ H => r_mv (v := .pointer _) rfl) ?_
  refine q_run rfl rfl (fun _ H => r_nc rfl) ?_
  refine q_run rfl rfl (fun _ H => r_fa0 rfl fo149_0) ?_
  refine q_run rfl rfl (fun _ H => r_lo H 0 rfl rfl h0 ag26) ?_
  refine q_run rfl rfl (fun _ H => r_mv (v := .int _ _) rfl) ?_
  refine q_call rfl rfl (fun _ H => nGet g d a _ (H.grp_ents 1 rfl)) (ca25 rfl) ?_
  refine q_run rfl rfl (fun _ H => r_mv (v := .pointer _) rfl) ?_
  refine q_run rfl rfl (fun _ H => r_nc rfl) ?_
  refine q_run rfl rfl (fun _ H => r_fa0 rfl fo149_1) ?_
  refine q_run rfl rfl (fun _ H => r_fa rfl fo144_0) ?_
  refine q_run rfl rfl (fun _ H => r_lo H 0 rfl rfl h1 ag22) ?_
  refine q_run rfl rfl (fun _ H => r_leqF rfl rfl (by omega)) ?_
  refine q_run rfl rfl (fun _ H => r_mv (v := .bool _) rfl) ?_
  refine q_off rfl (g_off 22 (by kernel_rfl) rfl rfl) ?_
  refine q_off rfl (g_off 22 (by kernel_rfl) rfl rfl) ?_
  refine q_off rfl (g_off 22 (by kernel_rfl) rfl rfl) ?_
  refine q_off rfl (g_off 22 (by kernel_rfl) rfl rfl) ?_
  refine q_off rfl (g_off 22 (by kernel_rfl) rfl rfl) ?_
  refine q_off rfl (g_off 22 (by kernel_rfl) rfl rfl) ?_
  refine q_off rfl (g_off 22 (by kernel_rfl) rfl rfl) ?_
  refine q_off rfl (g_off 22 (by kernel_rfl) rfl rfl) ?_
  refine q_off rfl (g_off 22 (by kernel_rfl) rfl rfl) ?_
  refine q_off rfl (g_off 22 (by kernel_rfl) rfl rfl) ?_
  refine q_off rfl (g_off 22 (by kernel_rfl) rfl rfl) ?_
  refine q_off rfl (g_off 22 (by kernel_rfl) rfl rfl) ?_
  refine q_off rfl (g_off 22 (by kernel_rfl) rfl rfl) ?_
  refine q_run rfl rfl (fun _ H => r_pkF (v := .bool _) rfl rfl) ?_
  refine q_nil ?_
  intro _ H'; clear H; have H := H'; clear H'
  refine c_norm ?_
  refine k_f rfl ?_
  refine k_skip ?_
  refine c_norm ?_
  refine k_seq ?_
  refine k_sg ?_
  refine s_run rfl rfl (rai rfl) ?_
  refine k_nc ?_
  refine k_b ?_
  refine k_loop (fun z f W => ∃ j : Nat, j ≤ 2 ∧ z = 2 - j ∧ (Nv.wiTo d m a j).2 = 0 ∧ f 0 = ptr t ∧ f 5 = .int .i64 a ∧ f 6 = .int .i64 ((8 * j : Nat) : Int) ∧ Heap w FF [blk t cs 149, grp (devL g (Nv.wiTo d m a j).1)] W) 2 ⟨0, by omega, rfl, rfl, rfl, rfl, rfl, H⟩ ?_
  clear H
  rintro z f W ⟨j, hj, rfl, hc0, f0, f5, f6, H⟩
  obtain ⟨f, rfl⟩ := live3 f0 f5 f6
  clear f0 f5 f6
  have hI0 := fun k => hI.wiTo a k
  by_cases hlt2 : j < 2
  ·have hsu := Nv.wiTo_succ d m a j hc0
   have ea : (a : Int) + 8 * (j : Int) = (a : Int) + ((8 * j : Nat) : Int) := by omega
   rw [ea] at hsu
   have hSt := fun W hE => nStore g (Nv.wiTo d m a j).1 m ((a : Int) + ((8 * j : Nat) : Int)) 0 W hE (hI0 _).ok hm
   rw [← hsu] at hSt
   by_cases hcode : (Nv.wiTo d m a (j + 1)).2 = 0
   ·refine k_seq ?_
    refine k_sg ?_
    refine s_run rfl rfl (rmi rfl) ?_
    refine s_run rfl rfl (r_lssT rfl rfl (by omega)) ?_
    refine k_nc ?_
    refine k_t rfl ?_
    refine k_skip ?_
    refine c_norm ?_
    refine k_seq ?_
    refine k_b ?_
    refine k_sg ?_
    refine s_run rfl rfl (rmp rfl) ?_
    refine s_run rfl rfl (r_nc rfl) ?_
    refine s_run rfl rfl (r_fa0 rfl fo149_0) ?_
    refine s_run rfl rfl (r_lo H 0 rfl rfl h0 ag26) ?_
    refine s_run rfl rfl (rmi rfl) ?_
    refine s_run rfl rfl (rmi rfl) ?_
    refine s_run rfl rfl (r_add rfl rfl (wI (by omega))) ?_
    refine s_call rfl (hSt _ (H.grp_ents 1 rfl)) (ca30 rfl) ?_
    rintro e W1 ⟨rfl, H'⟩
    refine ⟨_, rfl, ?_⟩
    have H1 := H.grp_at 1 rfl H'; clear H H'; have H := H1; clear H1; simp only [List.set_cons_succ, List.set_cons_zero] at H
    refine s_run rfl rfl (rai rfl) ?_
    refine k_nc ?_
    refine k_sg ?_
    refine s_run rfl rfl (rmi rfl) ?_
    refine s_run rfl rfl (r_neqF rfl rfl (by omega)) ?_
    refine k_nc ?_
    refine k_f rfl ?_
    refine k_skip ?_
    refine b_norm ?_
    refine c_norm ?_
    refine k_rg ?_
    refine s_run rfl rfl (rmi rfl) ?_
    refine s_run rfl rfl (r_add rfl rfl (wI (by omega))) ?_
    refine s_run rfl rfl (rai rfl) ?_
    refine k_nil ?_
    refine c_round ?_
    refine ⟨_, _, ?_, rfl, j + 1, by omega, rfl, hcode, rfl, rfl, ?_, H⟩
    ·omega
    ·exact congrArg (Value.int .i64) (by omega)
   ·rw [Nv.wi_stuck d m a E hno (j + 1) (by omega) hcode]
    refine k_seq ?_
    refine k_sg ?_
    refine s_run rfl rfl (rmi rfl) ?_
    refine s_run rfl rfl (r_lssT rfl rfl (by omega)) ?_
    refine k_nc ?_
    refine k_t rfl ?_
    refine k_skip ?_
    refine c_norm ?_
    refine k_seq ?_
    refine k_b ?_
    refine k_sg ?_
    refine s_run rfl rfl (rmp rfl) ?_
    refine s_run rfl rfl (r_nc rfl) ?_
    refine s_run rfl rfl (r_fa0 rfl fo149_0) ?_
    refine s_run rfl rfl (r_lo H 0 rfl rfl h0 ag26) ?_
    refine s_run rfl rfl (rmi rfl) ?_
    refine s_run rfl rfl (rmi rfl) ?_
    refine s_run rfl rfl (r_add rfl rfl (wI (by omega))) ?_
    refine s_call rfl (hSt _ (H.grp_ents 1 rfl)) (ca30 rfl) ?_
    rintro e W1 ⟨rfl, H'⟩
    refine ⟨_, rfl, ?_⟩
    have H1 := H.grp_at 1 rfl H'; clear H H'; have H := H1; clear H1; simp only [List.set_cons_succ, List.set_cons_zero] at H
    refine s_run rfl rfl (rai rfl) ?_
    refine k_nc ?_
    refine k_sg ?_
    refine s_run rfl rfl (rmi rfl) ?_
    refine s_run rfl rfl (r_neqT rfl rfl (by omega)) ?_
    refine k_nc ?_
    refine k_t rfl ?_
    refine k_sg ?_
    refine s_run rfl rfl (rmi rfl) ?_
    refine s_run rfl rfl (rai rfl) ?_
    refine k_nc ?_
    refine k_ret ?_
    refine b_ret ?_
    refine c_ret ?_
    refine c_ret ?_
    refine b_ret ?_
    refine c_ret ?_
    refine fin1r (v := .int _ _) rfl rfl ?_
    exact ⟨rfl, H⟩
  ·obtain rfl : j = 2 := by omega
   rw [Nv.wi_end d m a E hno hc0]
   have hP := fun W hE => nPersist g (Nv.wiTo d m a 2).1 m a 16 W hE (hI0 _).ok hg hm
   refine k_seq ?_
   refine k_sg ?_
   refine s_run rfl rfl (rmi rfl) ?_
   refine s_run rfl rfl (r_lssF rfl rfl (by omega)) ?_
   refine k_nc ?_
   refine k_f rfl ?_
   refine k_exit ?_
   refine c_exit ?_
   refine c_exit ?_
   refine b_hit ?_
   refine c_norm ?_
   refine k_sg ?_
   refine s_run rfl rfl (rmp rfl) ?_
   refine s_run rfl rfl (r_nc rfl) ?_
   refine s_run rfl rfl (r_fa0 rfl fo149_0) ?_
   refine s_run rfl rfl (r_lo H 0 rfl rfl h0 ag26) ?_
   refine s_run rfl rfl (rmi rfl) ?_
   refine s_call rfl (hP _ (H.grp_ents 1 rfl)) (ca38 rfl) ?_
   rintro e W1 ⟨rfl, H'⟩
   refine ⟨_, rfl, ?_⟩
   have H1 := H.grp_at 1 rfl H'; clear H H'; have H := H1; clear H1; simp only [List.set_cons_succ, List.set_cons_zero] at H
   refine s_run rfl rfl (rai rfl) ?_
   refine k_nc ?_
   refine k_ret ?_
   refine fin1r (v := .int _ _) rfl rfl ?_
   exact ⟨rfl, H⟩
end Go.Proofs.Ytmekhdclnhhhbaa
end

section
namespace Go.Proofs.Ytmekhdclnhhhbaa
open Go.RowKit
/-- the slot that is not the lasting one -/
theorem tCommit (t : Nat) (g : Geo) (d : Nv.D) (m k : Nat) (E : Int) (R V : List Int) (w : World) (hE : Ents [blk t (tabC g.p E R k V) 149, grp (devL g d)] w) (hI : Nv.Inv d m) (hg : GOk g m) (hm : m ≤ 100000) (hk : k = 0 ∨ k = 1) (hEp : U64s E) (hR : R.length = 8) (hV : V.length = 8) (hVi : ∀ r ∈ V, I64 r) :
  Calls Try.prog 94 [ptr t].toArray w fun e w' => e = .returned (.int .i64 (Nv.cm d m E k (encL (E + 1) V)).2) ∧
   Heap w (ids [blk t (tabC g.p E R k V) 149, grp (devL g d)]) [blk t (if (Nv.cm d m E k (encL (E + 1) V)).2 = 0 then tabC g.p (E + 1) V ((1 - k : Nat) : Int) V else tabC g.p E R k V) 149, grp (devL g (Nv.cm d m E k (encL (E + 1) V)).1)] w' := by
 have H := Heap.start hE
 generalize ids [blk t (tabC g.p E R k V) 149, grp (devL g d)] = FF at *
 have hko : 1 - k = 0 ∨ 1 - k = 1 := by omega
 have hk1 : (1 : Int) - (k : Int) = ((1 - k : Nat) : Int) := by omega
 obtain ⟨r0, r1, r2, r3, r4, r5, r6, r7, rfl⟩ := list8 hR
 obtain ⟨v0, v1, v2, v3, v4, v5, v6, v7, rfl⟩ := list8 hV
 by_cases hbig : 1152921504606846976 ≤ E
 ·have e : Nv.cm d m E k (encL (E + 1) [v0, v1, v2, v3, v4, v5, v6, v7]) = (d, 26) := by unfold Nv.cm; rw [if_pos hbig]
  rw [e, if_neg (show ¬ ((26 : Int) = 0) by decide)]
  rw [tabE] at H ⊢
  refine k_in (N := 53) Try.func94 rfl rfl rfl ?_
  refine k_sg ?_
  refine s_run rfl rfl (rai rfl) ?_
  refine k_nc ?_
  refine k_seq ?_
  refine k_sg ?_
  refine s_run rfl rfl (rmp rfl) ?_
  refine s_run rfl rfl (r_nc rfl) ?_
  refine s_run rfl rfl (r_fa0 rfl fo149_1) ?_
  refine s_run rfl rfl (r_fa rfl fo144_0) ?_
  refine s_run rfl rfl (r_lo H 0 rfl rfl rfl ag22) ?_
  refine s_run rfl rfl (r_geqT rfl rfl (by omega)) ?_
  refine k_nc ?_
  refine k_t rfl ?_
  refine k_sg ?_
  refine s_run rfl rfl (rai rfl) ?_
  refine k_nc ?_
  refine k_ret ?_
  refine c_ret ?_
  refine fin1r (v := .int _ _) rfl rfl ?_
  exact ⟨rfl, H⟩
 have hWi := fun W hE => tWipe t g d m (1 - k) E k [r0, r1, r2, r3, r4, r5, r6, r7] [v0, v1, v2, v3, v4, v5, v6, v7] W hE hI hg hm hko
 have hI1 := hI.wi (64 + 64 * (1 - k)) E
 have hWr := fun W hE => tWrite g (Nv.wi d m (64 + 64 * (1 - k)) E).1 m (1 - k) (E + 1) [v0, v1, v2, v3, v4, v5, v6, v7] W hE hI1 hg hm hko rfl ⟨by have := hEp.1; omega, by omega⟩ hVi
 simp only [List.map_cons, List.map_nil] at hWr
 have hU := hEp
 unfold U64s at hU
 rw [tabE] at H hWi
 by_cases hw : (Nv.wi d m (64 + 64 * (1 - k)) E).2 = 0
 ·have e : Nv.cm d m E k (encL (E + 1) [v0, v1, v2, v3, v4, v5, v6, v7]) = Nv.wr (Nv.wi d m (64 + 64 * (1 - k)) E).1 m (64 + 64 * (1 - k)) (encL (E + 1) [v0, v1, v2, v3, v4, v5, v6, v7]) := by unfold Nv.cm; rw [if_neg hbig, if_pos hw]
  rw [e]
  rw [hw] at hWi
  generalize Nv.wr (Nv.wi d m (64 + 64 * (1 - k)) E).1 m (64 + 64 * (1 - k)) (encL (E + 1) [v0, v1, v2, v3, v4, v5, v6, v7]) = X at *
  generalize (Nv.wi d m (64 + 64 * (1 - k)) E).1 = D1 at *
  refine k_in (N := 53) Try.func94 rfl rfl rfl ?_
  refine k_sg ?_
  refine s_run rfl rfl (rai rfl) ?_
  refine k_nc ?_
  refine k_seq ?_
  refine k_sg ?_
  refine s_run rfl rfl (rmp rfl) ?_
  refine s_run rfl rfl (r_nc rfl) ?_
  refine s_run rfl rfl (r_fa0 rfl fo149_1) ?_
  refine s_run rfl rfl (r_fa rfl fo144_0) ?_
  refine s_run rfl rfl (r_lo H 0 rfl rfl rfl ag22) ?_
  refine s_run rfl rfl (r_geqF rfl rfl (by omega)) ?_
  refine k_nc ?_
  refine k_f rfl ?_
  refine k_skip ?_
  refine c_norm ?_
  refine k_seq ?_
  refine k_cut (fun f W => ∃ p3, f 0 = ptr t ∧ f 3 = ptr p3 ∧ Heap w FF [blk p3 [.int .u64 (E + 1), .int .i64 v0, .int .i64 v1, .int .i64 v2, .int .i64 v3, .int .i64 v4, .int .i64 v5, .int .i64 v6, .int .i64 v7] 144, blk t [ptr g.p, .int .u64 E, .int .i64 r0, .int .i64 r1, .int .i64 r2, .int .i64 r3, .int .i64 r4, .int .i64 r5, .int .i64 r6, .int .i64 r7, .int .i64 k, .int .i64 v0, .int .i64 v1, .int .i64 v2, .int .i64 v3, .int .i64 v4, .int .i64 v5, .int .i64 v6, .int .i64 v7] 149, grp (devL g d)] W) ?_ ?_
  ·refine k_trF mixed ?_; have H' := H.drew; clear H; have H := H'; clear H'
   refine tqn 0 rfl rfl rfl (fun _ hS => r_mv (v := .pointer _) rfl) trivial ?_
   refine tqn 1 rfl rfl rfl (fun _ hS => r_nc rfl) trivial ?_
   refine tqn 2 rfl rfl rfl (fun _ hS => r_fa0 rfl fo149_1) trivial ?_
   refine tqn 3 rfl rfl rfl (fun _ hS => r_fa rfl fo144_0) trivial ?_
   refine tqn 6 rfl rfl rfl (fun _ hS => r_mv (v := .pointer _) rfl) trivial ?_
   refine tqn 7 rfl rfl rfl (fun _ hS => r_nc rfl) trivial ?_
   refine tqn 8 rfl rfl rfl (fun _ hS => r_fa0 rfl fo149_3) trivial ?_
   refine t_up3 4 9 11 (by kernel_rfl) ?_ ?_ ?_
   ·refine up_mk rfl ?_
    refine s_run rfl rfl (r_lo H 0 rfl rfl rfl ag22) ?_
    refine k_nil ?_
    refine t_on trivial ?_
    refine tqn 5 rfl rfl rfl (fun _ hS => r_add rfl rfl (wU (by omega))) trivial ?_
    refine t_up2 9 11 (by kernel_rfl) ?_ ?_
    ·refine up_mk rfl ?_
     refine s_run rfl rfl (by first | exact r_lp H 0 (vs := [.int .i64 v0, .int .i64 v1, .int .i64 v2, .int .i64 v3, .int .i64 v4, .int .i64 v5, .int .i64 v6, .int .i64 v7]) rfl rfl rfl rfl ag87 sz87 | exact r_lp H 1 (vs := [.int .i64 v0, .int .i64 v1, .int .i64 v2, .int .i64 v3, .int .i64 v4, .int .i64 v5, .int .i64 v6, .int .i64 v7]) rfl rfl rfl rfl ag87 sz87) ?_
     refine k_nil ?_
     refine t_on trivial ?_
     refine tqn 10 rfl rfl rfl (fun _ hS => r_bd (bd144_0_1 _ _ _ _ _ _ _ _ _) rfl) trivial ?_
     refine t_up1 11 (by kernel_rfl) ?_
     refine up_mk rfl ?_
     refine s_al H rfl inf144 ?_
     intro p3 _ H'; clear H; have H := H'; clear H'
     refine k_nil ?_
     refine t_on trivial ?_
     refine t_up1 12 (by kernel_rfl) ?_
     refine up_mk rfl ?_
     refine s_sw H 0 rfl rfl rfl rfl rfl rfl rfl sz144 ?_
     clear H; intro _ H; simp only [jA, jB, jC, jD, jE, jF, jG, jH, jI, jJ, jK, Nat.reduceAdd] at H
     refine k_nil ?_
     refine t_on trivial ?_
     refine t_done (by kernel_rfl) ?_
     refine k_met ?_
     exact ⟨_, rfl, rfl, H⟩
    ·refine up_mk rfl ?_
     refine s_al H rfl inf144 ?_
     intro p3 _ H'; clear H; have H := H'; clear H'
     refine k_nil ?_
     refine t_on trivial ?_
     refine t_up1 9 (by kernel_rfl) ?_
     refine up_mk rfl ?_
     refine s_run rfl rfl (by first | exact r_lp H 0 (vs := [.int .i64 v0, .int .i64 v1, .int .i64 v2, .int .i64 v3, .int .i64 v4, .int .i64 v5, .int .i64 v6, .int .i64 v7]) rfl rfl rfl rfl ag87 sz87 | exact r_lp H 1 (vs := [.int .i64 v0, .int .i64 v1, .int .i64 v2, .int .i64 v3, .int .i64 v4, .int .i64 v5, .int .i64 v6, .int .i64 v7]) rfl rfl rfl rfl ag87 sz87) ?_
     refine k_nil ?_
     refine t_on trivial ?_
     refine tqn 10 rfl rfl rfl (fun _ hS => r_bd (bd144_0_1 _ _ _ _ _ _ _ _ _) rfl) trivial ?_
     refine t_up1 12 (by kernel_rfl) ?_
     refine up_mk rfl ?_
     refine s_sw H 0 rfl rfl rfl rfl rfl rfl rfl sz144 ?_
     clear H; intro _ H; simp only [jA, jB, jC, jD, jE, jF, jG, jH, jI, jJ, jK, Nat.reduceAdd] at H
     refine k_nil ?_
     refine t_on trivial ?_
     refine t_done (by kernel_rfl) ?_
     refine k_met ?_
     exact ⟨_, rfl, rfl, H⟩
   ·refine up_mk rfl ?_
    refine s_run rfl rfl (by first | exact r_lp H 0 (vs := [.int .i64 v0, .int .i64 v1, .int .i64 v2, .int .i64 v3, .int .i64 v4, .int .i64 v5, .int .i64 v6, .int .i64 v7]) rfl rfl rfl rfl ag87 sz87 | exact r_lp H 1 (vs := [.int .i64 v0, .int .i64 v1, .int .i64 v2, .int .i64 v3, .int .i64 v4, .int .i64 v5, .int .i64 v6, .int .i64 v7]) rfl rfl rfl rfl ag87 sz87) ?_
    refine k_nil ?_
    refine t_on trivial ?_
    refine t_up2 4 11 (by kernel_rfl) ?_ ?_
    ·refine up_mk rfl ?_
     refine s_run rfl rfl (r_lo H 0 rfl rfl rfl ag22) ?_
     refine k_nil ?_
     refine t_on trivial ?_
     refine tqn 5 rfl rfl rfl (fun _ hS => r_add rfl rfl (wU (by omega))) trivial ?_
     refine tqn 10 rfl rfl rfl (fun _ hS => r_bd (bd144_0_1 _ _ _ _ _ _ _ _ _) rfl) trivial ?_
     refine t_up1 11 (by kernel_rfl) ?_
     refine up_mk rfl ?_
     refine s_al H rfl inf144 ?_
     intro p3 _ H'; clear H; have H := H'; clear H'
     refine k_nil ?_
     refine t_on trivial ?_
     refine t_up1 12 (by kernel_rfl) ?_
     refine up_mk rfl ?_
     refine s_sw H 0 rfl rfl rfl rfl rfl rfl rfl sz144 ?_
     clear H; intro _ H; simp only [jA, jB, jC, jD, jE, jF, jG, jH, jI, jJ, jK, Nat.reduceAdd] at H
     refine k_nil ?_
     refine t_on trivial ?_
     refine t_done (by kernel_rfl) ?_
     refine k_met ?_
     exact ⟨_, rfl, rfl, H⟩
    ·refine up_mk rfl ?_
     refine s_al H rfl inf144 ?_
     intro p3 _ H'; clear H; have H := H'; clear H'
     refine k_nil ?_
     refine t_on trivial ?_
     refine t_up1 4 (by kernel_rfl) ?_
     refine up_mk rfl ?_
     refine s_run rfl rfl (r_lo H 1 rfl rfl rfl ag22) ?_
     refine k_nil ?_
     refine t_on trivial ?_
     refine tqn 5 rfl rfl rfl (fun _ hS => r_add rfl rfl (wU (by omega))) trivial ?_
     refine tqn 10 rfl rfl rfl (fun _ hS => r_bd (bd144_0_1 _ _ _ _ _ _ _ _ _) rfl) trivial ?_
     refine t_up1 12 (by kernel_rfl) ?_
     refine up_mk rfl ?_
     refine s_sw H 0 rfl rfl rfl rfl rfl rfl rfl sz144 ?_
     clear H; intro _ H; simp only [jA, jB, jC, jD, jE, jF, jG, jH, jI, jJ, jK, Nat.reduceAdd] at H
     refine k_nil ?_
     refine t_on trivial ?_
     refine t_done (by kernel_rfl) ?_
     refine k_met ?_
     exact ⟨_, rfl, rfl, H⟩
   ·refine up_mk rfl ?_
    refine s_al H rfl inf144 ?_
    intro p3 _ H'; clear H; have H := H'; clear H'
    refine k_nil ?_
    refine t_on trivial ?_
    refine t_up2 4 9 (by kernel_rfl) ?_ ?_
    ·refine up_mk rfl ?_
     refine s_run rfl rfl (r_lo H 1 rfl rfl rfl ag22) ?_
     refine k_nil ?_
     refine t_on trivial ?_
     refine tqn 5 rfl rfl rfl (fun _ hS => r_add rfl rfl (wU (by omega))) trivial ?_
     refine t_up1 9 (by kernel_rfl) ?_
     refine up_mk rfl ?_
     refine s_run rfl rfl (by first | exact r_lp H 0 (vs := [.int .i64 v0, .int .i64 v1, .int .i64 v2, .int .i64 v3, .int .i64 v4, .int .i64 v5, .int .i64 v6, .int .i64 v7]) rfl rfl rfl rfl ag87 sz87 | exact r_lp H 1 (vs := [.int .i64 v0, .int .i64 v1, .int .i64 v2, .int .i64 v3, .int .i64 v4, .int .i64 v5, .int .i64 v6, .int .i64 v7]) rfl rfl rfl rfl ag87 sz87) ?_
     refine k_nil ?_
     refine t_on trivial ?_
     refine tqn 10 rfl rfl rfl (fun _ hS => r_bd (bd144_0_1 _ _ _ _ _ _ _ _ _) rfl) trivial ?_
     refine t_up1 12 (by kernel_rfl) ?_
     refine up_mk rfl ?_
     refine s_sw H 0 rfl rfl rfl rfl rfl rfl rfl sz144 ?_
     clear H; intro _ H; simp only [jA, jB, jC, jD, jE, jF, jG, jH, jI, jJ, jK, Nat.reduceAdd] at H
     refine k_nil ?_
     refine t_on trivial ?_
     refine t_done (by kernel_rfl) ?_
     refine k_met ?_
     exact ⟨_, rfl, rfl, H⟩
    ·refine up_mk rfl ?_
     refine s_run rfl rfl (by first | exact r_lp H 0 (vs := [.int .i64 v0, .int .i64 v1, .int .i64 v2, .int .i64 v3, .int .i64 v4, .int .i64 v5, .int .i64 v6, .int .i64 v7]) rfl rfl rfl rfl ag87 sz87 | exact r_lp H 1 (vs := [.int .i64 v0, .int .i64 v1, .int .i64 v2, .int .i64 v3, .int .i64 v4, .int .i64 v5, .int .i64 v6, .int .i64 v7]) rfl rfl rfl rfl ag87 sz87) ?_
     refine k_nil ?_
     refine t_on trivial ?_
     refine t_up1 4 (by kernel_rfl) ?_
     refine up_mk rfl ?_
     refine s_run rfl rfl (r_lo H 1 rfl rfl rfl ag22) ?_
     refine k_nil ?_
     refine t_on trivial ?_
     refine tqn 5 rfl rfl rfl (fun _ hS => r_add rfl rfl (wU (by omega))) trivial ?_
     refine tqn 10 rfl rfl rfl (fun _ hS => r_bd (bd144_0_1 _ _ _ _ _ _ _ _ _) rfl) trivial ?_
     refine t_up1 12 (by kernel_rfl) ?_
     refine up_mk rfl ?_
     refine s_sw H 0 rfl rfl rfl rfl rfl rfl rfl sz144 ?_
     clear H; intro _ H; simp only [jA, jB, jC, jD, jE, jF, jG, jH, jI, jJ, jK, Nat.reduceAdd] at H
     refine k_nil ?_
     refine t_on trivial ?_
     refine t_done (by kernel_rfl) ?_
     refine k_met ?_
     exact ⟨_, rfl, rfl, H⟩
  clear H
  rintro f W ⟨p3, f0, f3, H⟩
  obtain ⟨f, rfl⟩ := live2 f0 f3
  clear f0 f3
  by_cases hx : X.2 = 0
  ·rw [if_pos hx]
   rw [hx] at hWr ⊢
   refine c_norm ?_
   refine k_sg ?_
   refine s_run rfl rfl (rmp rfl) ?_
   refine s_run rfl rfl (r_nc rfl) ?_
   refine s_run rfl rfl (r_fa0 rfl fo149_2) ?_
   refine s_run rfl rfl (r_lo H 1 rfl rfl rfl ag3) ?_
   refine s_run rfl rfl (r_sub (c := ((1 - k : Nat) : Int)) rfl rfl (by rw [hk1]; exact wI (by omega))) ?_
   refine s_run rfl rfl (rai rfl) ?_
   refine k_nc ?_
   refine k_seq ?_
   refine k_sg ?_
   refine s_run rfl rfl (rmp rfl) ?_
   refine s_run rfl rfl (rmi rfl) ?_
   refine s_call rfl (hWi _ (by have h := H.pick 0 rfl; exact (Heap.drop (E := blk p3 _ _) H).ents)) (ca114 rfl) ?_
   rintro e W1 ⟨rfl, H'⟩
   refine ⟨_, rfl, ?_⟩
   have H1 : Heap w FF ([blk t _ _, grp _] ++ [blk p3 _ _]) _ := Heap.step (A := [blk t _ _, grp _]) (L := [blk p3 _ _]) ((H.pick 1 rfl).perm (.cons _ (.swap _ _ _))) H' (fun i hi => hi); clear H H'; have H := H1.pick 2 rfl; clear H1; simp only [List.cons_append, List.nil_append, List.eraseIdx_cons_succ, List.eraseIdx_cons_zero] at H
   refine s_run rfl rfl (rai rfl) ?_
   refine k_nc ?_
   refine k_sg ?_
   refine s_run rfl rfl (rmi rfl) ?_
   refine s_run rfl rfl (r_neqF rfl rfl (by omega)) ?_
   refine k_nc ?_
   refine k_f rfl ?_
   refine k_skip ?_
   refine c_norm ?_
   refine k_seq ?_
   refine k_seq ?_
   refine k_trF mixed ?_; have H' := H.drew; clear H; have H := H'; clear H'
   refine tqh 0 rfl rfl rfl (fun _ hS => r_mv (v := .pointer _) rfl) trivial ?_
   refine tqh 1 rfl rfl rfl (fun _ hS => r_nc rfl) trivial ?_
   refine tqh 2 rfl rfl rfl (fun _ hS => r_fa0 rfl fo149_0) trivial ?_
   refine tqh 4 rfl rfl rfl (fun _ hS => r_mv (v := .int _ _) rfl) trivial ?_
   refine t_up2 3 5 (by kernel_rfl) ?_ ?_
   ·refine up_mk rfl ?_
    refine s_run rfl rfl (r_lo H 1 rfl rfl rfl ag26) ?_
    refine k_nil ?_
    refine t_on trivial ?_
    refine t_up1 5 (by kernel_rfl) ?_
    refine up_mk rfl ?_
    refine s_run rfl rfl (r_la H 0 rfl rfl rfl ag144 sz144) ?_
    refine k_nil ?_
    refine t_on trivial ?_
    refine t_up1 6 (by kernel_rfl) ?_
    refine up_mk rfl ?_
    refine s_call rfl (hWr _ (H.grp_ents 2 rfl)) (ca115 rfl) ?_
    rintro e W1 ⟨rfl, H'⟩
    refine ⟨_, rfl, ?_⟩
    have H1 := H.grp_at 2 rfl H'; clear H H'; have H := H1; clear H1; simp only [List.set_cons_succ, List.set_cons_zero] at H
    refine k_nil ?_
    refine t_on trivial ?_
    refine tqh 7 rfl rfl rfl (fun _ hS => r_as (v := .int _ _) rfl) trivial ?_
    refine t_done (by kernel_rfl) ?_
    refine c_norm ?_
    refine k_sg ?_
    refine s_run rfl rfl (rmi rfl) ?_
    refine s_run rfl rfl (r_neqF rfl rfl (by omega)) ?_
    refine k_nc ?_
    refine k_f rfl ?_
    refine k_skip ?_
    refine c_norm ?_
    refine k_sg ?_
    refine s_run rfl rfl (rmp rfl) ?_
    refine s_run rfl rfl (rmp rfl) ?_
    refine s_run rfl rfl (r_la H 0 rfl rfl rfl ag144 sz144) ?_
    refine s_run rfl rfl (rmi rfl) ?_
    refine s_run rfl rfl (r_nc rfl) ?_
    refine s_run rfl rfl (r_fa0 rfl fo149_1) ?_
    refine s_sa H 1 rfl rfl rfl rfl rfl rfl rfl sz144 ?_
    clear H; intro _ H; simp only [jA, jB, jC, jD, jE, jF, jG, jH, jI, jJ, jK, Nat.reduceAdd] at H
    refine s_run rfl rfl (r_nc rfl) ?_
    refine s_run rfl rfl (r_fa0 rfl fo149_2) ?_
    refine s_st (u := .int _ _) H 1 rfl rfl rfl rfl rfl rfl sz3 ?_
    clear H; intro _ H; simp only [jA, jB, jC, jD, jE, jF, jG, jH, jI, jJ, jK, Nat.reduceAdd] at H
    refine k_nc ?_
    refine k_sg ?_
    refine s_run rfl rfl (rai rfl) ?_
    refine k_nc ?_
    refine k_ret ?_
    refine fin1r (v := .int _ _) rfl rfl ?_
    rw [tabE]
    exact ⟨rfl, H.drop⟩
   ·refine up_mk rfl ?_
    refine s_run rfl rfl (r_la H 0 rfl rfl rfl ag144 sz144) ?_
    refine k_nil ?_
    refine t_on trivial ?_
    refine t_up1 3 (by kernel_rfl) ?_
    refine up_mk rfl ?_
    refine s_run rfl rfl (r_lo H 1 rfl rfl rfl ag26) ?_
    refine k_nil ?_
    refine t_on trivial ?_
    refine t_up1 6 (by kernel_rfl) ?_
    refine up_mk rfl ?_
    refine s_call rfl (hWr _ (H.grp_ents 2 rfl)) (ca115 rfl) ?_
    rintro e W1 ⟨rfl, H'⟩
    refine ⟨_, rfl, ?_⟩
    have H1 := H.grp_at 2 rfl H'; clear H H'; have H := H1; clear H1; simp only [List.set_cons_succ, List.set_cons_zero] at H
    refine k_nil ?_
    refine t_on trivial ?_
    refine tqh 7 rfl rfl rfl (fun _ hS => r_as (v := .int _ _) rfl) trivial ?_
    refine t_done (by kernel_rfl) ?_
    refine c_norm ?_
    refine k_sg ?_
    refine s_run rfl rfl (rmi rfl) ?_
    refine s_run rfl rfl (r_neqF rfl rfl (by omega)) ?_
    refine k_nc ?_
    refine k_f rfl ?_
    refine k_skip ?_
    refine c_norm ?_
    refine k_sg ?_
    refine s_run rfl rfl (rmp rfl) ?_
    refine s_run rfl rfl (rmp rfl) ?_
    refine s_run rfl rfl (r_la H 0 rfl rfl rfl ag144 sz144) ?_
    refine s_run rfl rfl (rmi rfl) ?_
    refine s_run rfl rfl (r_nc rfl) ?_
    refine s_run rfl rfl (r_fa0 rfl fo149_1) ?_
    refine s_sa H 1 rfl rfl rfl rfl rfl rfl rfl sz144 ?_
    clear H; intro _ H; simp only [jA, jB, jC, jD, jE, jF, jG, jH, jI, jJ, jK, Nat.reduceAdd] at H
    refine s_run rfl rfl (r_nc rfl) ?_
    refine s_run rfl rfl (r_fa0 rfl fo149_2) ?_
    refine s_st (u := .int _ _) H 1 rfl rfl rfl rfl rfl rfl sz3 ?_
    clear H; intro _ H; simp only [jA, jB, jC, jD, jE, jF, jG, jH, jI, jJ, jK, Nat.reduceAdd] at H
    refine k_nc ?_
    refine k_sg ?_
    refine s_run rfl rfl (rai rfl) ?_
    refine k_nc ?_
    refine k_ret ?_
    refine fin1r (v := .int _ _) rfl rfl ?_
    rw [tabE]
    exact ⟨rfl, H.drop⟩
  ·rw [if_neg hx, tabE]
   refine c_norm ?_
   refine k_sg ?_
   refine s_run rfl rfl (rmp rfl) ?_
   refine s_run rfl rfl (r_nc rfl) ?_
   refine s_run rfl rfl (r_fa0 rfl fo149_2) ?_
   refine s_run rfl rfl (r_lo H 1 rfl rfl rfl ag3) ?_
   refine s_run rfl rfl (r_sub (c := ((1 - k : Nat) : Int)) rfl rfl (by rw [hk1]; exact wI (by omega))) ?_
   refine s_run rfl rfl (rai rfl) ?_
   refine k_nc ?_
   refine k_seq ?_
   refine k_sg ?_
   refine s_run rfl rfl (rmp rfl) ?_
   refine s_run rfl rfl (rmi rfl) ?_
   refine s_call rfl (hWi _ (by have h := H.pick 0 rfl; exact (Heap.drop (E := blk p3 _ _) H).ents)) (ca114 rfl) ?_
   rintro e W1 ⟨rfl, H'⟩
   refine ⟨_, rfl, ?_⟩
   have H1 : Heap w FF ([blk t _ _, grp _] ++ [blk p3 _ _]) _ := Heap.step (A := [blk t _ _, grp _]) (L := [blk p3 _ _]) ((H.pick 1 rfl).perm (.cons _ (.swap _ _ _))) H' (fun i hi => hi); clear H H'; have H := H1.pick 2 rfl; clear H1; simp only [List.cons_append, List.nil_append, List.eraseIdx_cons_succ, List.eraseIdx_cons_zero] at H
   refine s_run rfl rfl (rai rfl) ?_
   refine k_nc ?_
   refine k_sg ?_
   refine s_run rfl rfl (rmi rfl) ?_
   refine s_run rfl rfl (r_neqF rfl rfl (by omega)) ?_
   refine k_nc ?_
   refine k_f rfl ?_
   refine k_skip ?_
   refine c_norm ?_
   refine k_seq ?_
   refine k_seq ?_
   refine k_trF mixed ?_; have H' := H.drew; clear H; have H := H'; clear H'
   refine tqh 0 rfl rfl rfl (fun _ hS => r_mv (v := .pointer _) rfl) trivial ?_
   refine tqh 1 rfl rfl rfl (fun _ hS => r_nc rfl) trivial ?_
   refine tqh 2 rfl rfl rfl (fun _ hS => r_fa0 rfl fo149_0) trivial ?_
   refine tqh 4 rfl rfl rfl (fun _ hS => r_mv (v := .int _ _) rfl) trivial ?_
   refine t_up2 3 5 (by kernel_rfl) ?_ ?_
   ·refine up_mk rfl ?_
    refine s_run rfl rfl (r_lo H 1 rfl rfl rfl ag26) ?_
    refine k_nil ?_
    refine t_on trivial ?_
    refine t_up1 5 (by kernel_rfl) ?_
    refine up_mk rfl ?_
    refine s_run rfl rfl (r_la H 0 rfl rfl rfl ag144 sz144) ?_
    refine k_nil ?_
    refine t_on trivial ?_
    refine t_up1 6 (by kernel_rfl) ?_
    refine up_mk rfl ?_
    refine s_call rfl (hWr _ (H.grp_ents 2 rfl)) (ca115 rfl) ?_
    rintro e W1 ⟨rfl, H'⟩
    refine ⟨_, rfl, ?_⟩
    have H1 := H.grp_at 2 rfl H'; clear H H'; have H := H1; clear H1; simp only [List.set_cons_succ, List.set_cons_zero] at H
    refine k_nil ?_
    refine t_on trivial ?_
    refine tqh 7 rfl rfl rfl (fun _ hS => r_as (v := .int _ _) rfl) trivial ?_
    refine t_done (by kernel_rfl) ?_
    refine c_norm ?_
    refine k_sg ?_
    refine s_run rfl rfl (rmi rfl) ?_
    refine s_run rfl rfl (r_neqT rfl rfl (by omega)) ?_
    refine k_nc ?_
    refine k_t rfl ?_
    refine k_sg ?_
    refine s_run rfl rfl (rmi rfl) ?_
    refine s_run rfl rfl (rai rfl) ?_
    refine k_nc ?_
    refine k_ret ?_
    refine c_ret ?_
    refine fin1r (v := .int _ _) rfl rfl ?_
    exact ⟨rfl, H.drop⟩
   ·refine up_mk rfl ?_
    refine s_run rfl rfl (r_la H 0 rfl rfl rfl ag144 sz144) ?_
    refine k_nil ?_
    refine t_on trivial ?_
    refine t_up1 3 (by kernel_rfl) ?_
    refine up_mk rfl ?_
    refine s_run rfl rfl (r_lo H 1 rfl rfl rfl ag26) ?_
    refine k_nil ?_
    refine t_on trivial ?_
    refine t_up1 6 (by kernel_rfl) ?_
    refine up_mk rfl ?_
    refine s_call rfl (hWr _ (H.grp_ents 2 rfl)) (ca115 rfl) ?_
    rintro e W1 ⟨rfl, H'⟩
    refine ⟨_, rfl, ?_⟩
    have H1 := H.grp_at 2 rfl H'; clear H H'; have H := H1; clear H1; simp only [List.set_cons_succ, List.set_cons_zero] at H
    refine k_nil ?_
    refine t_on trivial ?_
    refine tqh 7 rfl rfl rfl (fun _ hS => r_as (v := .int _ _) rfl) trivial ?_
    refine t_done (by kernel_rfl) ?_
    refine c_norm ?_
    refine k_sg ?_
    refine s_run rfl rfl (rmi rfl) ?_
    refine s_run rfl rfl (r_neqT rfl rfl (by omega)) ?_
    refine k_nc ?_
    refine k_t rfl ?_
    refine k_sg ?_
    refine s_run rfl rfl (rmi rfl) ?_
    refine s_run rfl rfl (rai rfl) ?_
    refine k_nc ?_
    refine k_ret ?_
    refine c_ret ?_
    refine fin1r (v := .int _ _) rfl rfl ?_
    exact ⟨rfl, H.drop⟩
 ·have e : Nv.cm d m E k (encL (E + 1) [v0, v1, v2, v3, v4, v5, v6, v7]) = Nv.wi d m (64 + 64 * (1 - k)) E := by unfold Nv.cm; rw [if_neg hbig, if_neg hw]
  rw [e, if_neg hw, tabE]
  generalize Nv.wi d m (64 + 64 * (1 - k)) E = X at *
  refine k_in (N := 53) Try.func94 rfl rfl rfl ?_
  refine k_sg ?_
  refine s_run rfl rfl (rai rfl) ?_
  refine k_nc ?_
  refine k_seq ?_
  refine k_sg ?_
  refine s_run rfl rfl (rmp rfl) ?_
  refine s_run rfl rfl (r_nc rfl) ?_
  refine s_run rfl rfl (r_fa0 rfl fo149_1) ?_
  refine s_run rfl rfl (r_fa rfl fo144_0) ?_
  refine s_run rfl rfl (r_lo H 0 rfl rfl rfl ag22) ?_
  refine s_run rfl rfl (r_geqF rfl rfl (by omega)) ?_
  refine k_nc ?_
  refine k_f rfl ?_
  refine k_skip ?_
  refine c_norm ?_
  refine k_seq ?_
  refine k_cut (fun f W => ∃ p3, f 0 = ptr t ∧ f 3 = ptr p3 ∧ Heap w FF [blk p3 [.int .u64 (E + 1), .int .i64 v0, .int .i64 v1, .int .i64 v2, .int .i64 v3, .int .i64 v4, .int .i64 v5, .int .i64 v6, .int .i64 v7] 144, blk t [ptr g.p, .int .u64 E, .int .i64 r0, .int .i64 r1, .int .i64 r2, .int .i64 r3, .int .i64 r4, .int .i64 r5, .int .i64 r6, .int .i64 r7, .int .i64 k, .int .i64 v0, .int .i64 v1, .int .i64 v2, .int .i64 v3, .int .i64 v4, .int .i64 v5, .int .i64 v6, .int .i64 v7] 149, grp (devL g d)] W) ?_ ?_
  ·refine k_trF mixed ?_; have H' := H.drew; clear H; have H := H'; clear H'
   refine tqn 0 rfl rfl rfl (fun _ hS => r_mv (v := .pointer _) rfl) trivial ?_
   refine tqn 1 rfl rfl rfl (fun _ hS => r_nc rfl) trivial ?_
   refine tqn 2 rfl rfl rfl (fun _ hS => r_fa0 rfl fo149_1) trivial ?_
   refine tqn 3 rfl rfl rfl (fun _ hS => r_fa rfl fo144_0) trivial ?_
   refine tqn 6 rfl rfl rfl (fun _ hS => r_mv (v := .pointer _) rfl) trivial ?_
   refine tqn 7 rfl rfl rfl (fun _ hS => r_nc rfl) trivial ?_
   refine tqn 8 rfl rfl rfl (fun _ hS => r_fa0 rfl fo149_3) trivial ?_
   refine t_up3 4 9 11 (by kernel_rfl) ?_ ?_ ?_
   ·refine up_mk rfl ?_
    refine s_run rfl rfl (r_lo H 0 rfl rfl rfl ag22) ?_
    refine k_nil ?_
    refine t_on trivial ?_
    refine tqn 5 rfl rfl rfl (fun _ hS => r_add rfl rfl (wU (by omega))) trivial ?_
    refine t_up2 9 11 (by kernel_rfl) ?_ ?_
    ·refine up_mk rfl ?_
     refine s_run rfl rfl (by first | exact r_lp H 0 (vs := [.int .i64 v0, .int .i64 v1, .int .i64 v2, .int .i64 v3, .int .i64 v4, .int .i64 v5, .int .i64 v6, .int .i64 v7]) rfl rfl rfl rfl ag87 sz87 | exact r_lp H 1 (vs := [.int .i64 v0, .int .i64 v1, .int .i64 v2, .int .i64 v3, .int .i64 v4, .int .i64 v5, .int .i64 v6, .int .i64 v7]) rfl rfl rfl rfl ag87 sz87) ?_
     refine k_nil ?_
     refine t_on trivial ?_
     refine tqn 10 rfl rfl rfl (fun _ hS => r_bd (bd144_0_1 _ _ _ _ _ _ _ _ _) rfl) trivial ?_
     refine t_up1 11 (by kernel_rfl) ?_
     refine up_mk rfl ?_
     refine s_al H rfl inf144 ?_
     intro p3 _ H'; clear H; have H := H'; clear H'
     refine k_nil ?_
     refine t_on trivial ?_
     refine t_up1 12 (by kernel_rfl) ?_
     refine up_mk rfl ?_
     refine s_sw H 0 rfl rfl rfl rfl rfl rfl rfl sz144 ?_
     clear H; intro _ H; simp only [jA, jB, jC, jD, jE, jF, jG, jH, jI, jJ, jK, Nat.reduceAdd] at H
     refine k_nil ?_
     refine t_on trivial ?_
     refine t_done (by kernel_rfl) ?_
     refine k_met ?_
     exact ⟨_, rfl, rfl, H⟩
    ·refine up_mk rfl ?_
     refine s_al H rfl inf144 ?_
     intro p3 _ H'; clear H; have H := H'; clear H'
     refine k_nil ?_
     refine t_on trivial ?_
     refine t_up1 9 (by kernel_rfl) ?_
     refine up_mk rfl ?_
     refine s_run rfl rfl (by first | exact r_lp H 0 (vs := [.int .i64 v0, .int .i64 v1, .int .i64 v2, .int .i64 v3, .int .i64 v4, .int .i64 v5, .int .i64 v6, .int .i64 v7]) rfl rfl rfl rfl ag87 sz87 | exact r_lp H 1 (vs := [.int .i64 v0, .int .i64 v1, .int .i64 v2, .int .i64 v3, .int .i64 v4, .int .i64 v5, .int .i64 v6, .int .i64 v7]) rfl rfl rfl rfl ag87 sz87) ?_
     refine k_nil ?_
     refine t_on trivial ?_
     refine tqn 10 rfl rfl rfl (fun _ hS => r_bd (bd144_0_1 _ _ _ _ _ _ _ _ _) rfl) trivial ?_
     refine t_up1 12 (by kernel_rfl) ?_
     refine up_mk rfl ?_
     refine s_sw H 0 rfl rfl rfl rfl rfl rfl rfl sz144 ?_
     clear H; intro _ H; simp only [jA, jB, jC, jD, jE, jF, jG, jH, jI, jJ, jK, Nat.reduceAdd] at H
     refine k_nil ?_
     refine t_on trivial ?_
     refine t_done (by kernel_rfl) ?_
     refine k_met ?_
     exact ⟨_, rfl, rfl, H⟩
   ·refine up_mk rfl ?_
    refine s_run rfl rfl (by first | exact r_lp H 0 (vs := [.int .i64 v0, .int .i64 v1, .int .i64 v2, .int .i64 v3, .int .i64 v4, .int .i64 v5, .int .i64 v6, .int .i64 v7]) rfl rfl rfl rfl ag87 sz87 | exact r_lp H 1 (vs := [.int .i64 v0, .int .i64 v1, .int .i64 v2, .int .i64 v3, .int .i64 v4, .int .i64 v5, .int .i64 v6, .int .i64 v7]) rfl rfl rfl rfl ag87 sz87) ?_
    refine k_nil ?_
    refine t_on trivial ?_
    refine t_up2 4 11 (by kernel_rfl) ?_ ?_
    ·refine up_mk rfl ?_
     refine s_run rfl rfl (r_lo H 0 rfl rfl rfl ag22) ?_
     refine k_nil ?_
     refine t_on trivial ?_
     refine tqn 5 rfl rfl rfl (fun _ hS => r_add rfl rfl (wU (by omega))) trivial ?_
     refine tqn 10 rfl rfl rfl (fun _ hS => r_bd (bd144_0_1 _ _ _ _ _ _ _ _ _) rfl) trivial ?_
     refine t_up1 11 (by kernel_rfl) ?_
     refine up_mk rfl ?_
     refine s_al H rfl inf144 ?_
     intro p3 _ H'; clear H; have H := H'; clear H'
     refine k_nil ?_
     refine t_on trivial ?_
     refine t_up1 12 (by kernel_rfl) ?_
     refine up_mk rfl ?_
     refine s_sw H 0 rfl rfl rfl rfl rfl rfl rfl sz144 ?_
     clear H; intro _ H; simp only [jA, jB, jC, jD, jE, jF, jG, jH, jI, jJ, jK, Nat.reduceAdd] at H
     refine k_nil ?_
     refine t_on trivial ?_
     refine t_done (by kernel_rfl) ?_
     refine k_met ?_
     exact ⟨_, rfl, rfl, H⟩
    ·refine up_mk rfl ?_
     refine s_al H rfl inf144 ?_
     intro p3 _ H'; clear H; have H := H'; clear H'
     refine k_nil ?_
     refine t_on trivial ?_
     refine t_up1 4 (by kernel_rfl) ?_
     refine up_mk rfl ?_
     refine s_run rfl rfl (r_lo H 1 rfl rfl rfl ag22) ?_
     refine k_nil ?_
     refine t_on trivial ?_
     refine tqn 5 rfl rfl rfl (fun _ hS => r_add rfl rfl (wU (by omega))) trivial ?_
     refine tqn 10 rfl rfl rfl (fun _ hS => r_bd (bd144_0_1 _ _ _ _ _ _ _ _ _) rfl) trivial ?_
     refine t_up1 12 (by kernel_rfl) ?_
     refine up_mk rfl ?_
     refine s_sw H 0 rfl rfl rfl rfl rfl rfl rfl sz144 ?_
     clear H; intro _ H; simp only [jA, jB, jC, jD, jE, jF, jG, jH, jI, jJ, jK, Nat.reduceAdd] at H
     refine k_nil ?_
     refine t_on trivial ?_
     refine t_done (by kernel_rfl) ?_
     refine k_met ?_
     exact ⟨_, rfl, rfl, H⟩
   ·refine up_mk rfl ?_
    refine s_al H rfl inf144 ?_
    intro p3 _ H'; clear H; have H := H'; clear H'
    refine k_nil ?_
    refine t_on trivial ?_
    refine t_up2 4 9 (by kernel_rfl) ?_ ?_
    ·refine up_mk rfl ?_
     refine s_run rfl rfl (r_lo H 1 rfl rfl rfl ag22) ?_
     refine k_nil ?_
     refine t_on trivial ?_
     refine tqn 5 rfl rfl rfl (fun _ hS => r_add rfl rfl (wU (by omega))) trivial ?_
     refine t_up1 9 (by kernel_rfl) ?_
     refine up_mk rfl ?_
     refine s_run rfl rfl (by first | exact r_lp H 0 (vs := [.int .i64 v0, .int .i64 v1, .int .i64 v2, .int .i64 v3, .int .i64 v4, .int .i64 v5, .int .i64 v6, .int .i64 v7]) rfl rfl rfl rfl ag87 sz87 | exact r_lp H 1 (vs := [.int .i64 v0, .int .i64 v1, .int .i64 v2, .int .i64 v3, .int .i64 v4, .int .i64 v5, .int .i64 v6, .int .i64 v7]) rfl rfl rfl rfl ag87 sz87) ?_
     refine k_nil ?_
     refine t_on trivial ?_
     refine tqn 10 rfl rfl rfl (fun _ hS => r_bd (bd144_0_1 _ _ _ _ _ _ _ _ _) rfl) trivial ?_
     refine t_up1 12 (by kernel_rfl) ?_
     refine up_mk rfl ?_
     refine s_sw H 0 rfl rfl rfl rfl rfl rfl rfl sz144 ?_
     clear H; intro _ H; simp only [jA, jB, jC, jD, jE, jF, jG, jH, jI, jJ, jK, Nat.reduceAdd] at H
     refine k_nil ?_
     refine t_on trivial ?_
     refine t_done (by kernel_rfl) ?_
     refine k_met ?_
     exact ⟨_, rfl, rfl, H⟩
    ·refine up_mk rfl ?_
     refine s_run rfl rfl (by first | exact r_lp H 0 (vs := [.int .i64 v0, .int .i64 v1, .int .i64 v2, .int .i64 v3, .int .i64 v4, .int .i64 v5, .int .i64 v6, .int .i64 v7]) rfl rfl rfl rfl ag87 sz87 | exact r_lp H 1 (vs := [.int .i64 v0, .int .i64 v1, .int .i64 v2, .int .i64 v3, .int .i64 v4, .int .i64 v5, .int .i64 v6, .int .i64 v7]) rfl rfl rfl rfl ag87 sz87) ?_
     refine k_nil ?_
     refine t_on trivial ?_
     refine t_up1 4 (by kernel_rfl) ?_
     refine up_mk rfl ?_
     refine s_run rfl rfl (r_lo H 1 rfl rfl rfl ag22) ?_
     refine k_nil ?_
     refine t_on trivial ?_
     refine tqn 5 rfl rfl rfl (fun _ hS => r_add rfl rfl (wU (by omega))) trivial ?_
     refine tqn 10 rfl rfl rfl (fun _ hS => r_bd (bd144_0_1 _ _ _ _ _ _ _ _ _) rfl) trivial ?_
     refine t_up1 12 (by kernel_rfl) ?_
     refine up_mk rfl ?_
     refine s_sw H 0 rfl rfl rfl rfl rfl rfl rfl sz144 ?_
     clear H; intro _ H; simp only [jA, jB, jC, jD, jE, jF, jG, jH, jI, jJ, jK, Nat.reduceAdd] at H
     refine k_nil ?_
     refine t_on trivial ?_
     refine t_done (by kernel_rfl) ?_
     refine k_met ?_
     exact ⟨_, rfl, rfl, H⟩
  clear H
  rintro f W ⟨p3, f0, f3, H⟩
  obtain ⟨f, rfl⟩ := live2 f0 f3
  clear f0 f3
  refine c_norm ?_
  refine k_sg ?_
  refine s_run rfl rfl (rmp rfl) ?_
  refine s_run rfl rfl (r_nc rfl) ?_
  refine s_run rfl rfl (r_fa0 rfl fo149_2) ?_
  refine s_run rfl rfl (r_lo H 1 rfl rfl rfl ag3) ?_
  refine s_run rfl rfl (r_sub (c := ((1 - k : Nat) : Int)) rfl rfl (by rw [hk1]; exact wI (by omega))) ?_
  refine s_run rfl rfl (rai rfl) ?_
  refine k_nc ?_
  refine k_seq ?_
  refine k_sg ?_
  refine s_run rfl rfl (rmp rfl) ?_
  refine s_run rfl rfl (rmi rfl) ?_
  refine s_call rfl (hWi _ (by have h := H.pick 0 rfl; exact (Heap.drop (E := blk p3 _ _) H).ents)) (ca114 rfl) ?_
  rintro e W1 ⟨rfl, H'⟩
  refine ⟨_, rfl, ?_⟩
  have H1 : Heap w FF ([blk t _ _, grp _] ++ [blk p3 _ _]) _ := Heap.step (A := [blk t _ _, grp _]) (L := [blk p3 _ _]) ((H.pick 1 rfl).perm (.cons _ (.swap _ _ _))) H' (fun i hi => hi); clear H H'; have H := H1.pick 2 rfl; clear H1; simp only [List.cons_append, List.nil_append, List.eraseIdx_cons_succ, List.eraseIdx_cons_zero] at H
  refine s_run rfl rfl (rai rfl) ?_
  refine k_nc ?_
  refine k_sg ?_
  refine s_run rfl rfl (rmi rfl) ?_
  refine s_run rfl rfl (r_neqT rfl rfl (by omega)) ?_
  refine k_nc ?_
  refine k_t rfl ?_
  refine k_sg ?_
  refine s_run rfl rfl (rmi rfl) ?_
  refine s_run rfl rfl (rai rfl) ?_
  refine k_nc ?_
  refine k_ret ?_
  refine c_ret ?_
  refine fin1r (v := .int _ _) rfl rfl ?_
  exact ⟨rfl, H.drop⟩
end Go.Proofs.Ytmekhdclnhhhbaa
end

section
namespace Go.Proofs.Ytmekhdclnhhhbaa
open Go.RowKit
theorem RefOk.at {w W : World} {L : List Ent} {F X : List Nat} {s : RefS} {d : Nv.D} {m : Nat} (hr : RefOk w (F ++ X) s d m) (H : Heap w F L W) : RefOk W ((F ++ X) ++ ids L) s d m :=
 (hr.news (G := (F ++ X) ++ ids L) (fun i hi => by
  rcases List.mem_append.1 hi with h | h
  ·exact .inl h
  ·rcases H.own i h with h | h
   ·exact .inl (List.mem_append_left _ h)
   ·exact .inr h)).later H.only (fun _ h => List.mem_append_left _ (List.mem_append_left _ h))
theorem Heap.fl {w W : World} {L : List Ent} {F G : List Nat} (H : Heap w F L W) (hG : ∀ i ∈ G, i < w.heap.size) : ∀ i ∈ G ++ ids L, i < W.heap.size := by
 intro i hi
 rcases List.mem_append.1 hi with h | h
 ·exact Nat.lt_of_lt_of_le (hG i h) H.only.size
 ·exact H.idlt i h
section
variable (g : Geo) (d : Nv.D) (s : RefS) (m : Nat) (k a n v : Int) (A : Option Addr) (nc cc : Nat) (cs : List Int) (X : List Nat) (w : World)

end
end Go.Proofs.Ytmekhdclnhhhbaa
end

section
namespace Go.Proofs.Ytmekhdclnhhhbaa
open Go.RowKit
theorem rtRead (s : RefS) (d : Nv.D) (m a : Nat) (F : List Nat) (w : World) (hr : RefOk w F s d m) (hm : m ≤ 100000) (ha : a ≤ 1000) :
  Calls Try.prog 108 [.agg (refCells s d m).toArray, .int .i64 a].toArray w fun e w' => e = .returned (.agg ((getsA d.cache a 16).map (Value.int .u64)).toArray) ∧ Only [] w w' := by
 have H := Heap.nil w
 have hnow := hr.now.mono (G := []) (by simp)
 have hc := hr.ok.hc
 rw [refE]
 refine k_in (N := 20) Try.func108 rfl rfl rfl ?_
 refine k_sg ?_
 refine s_box H rfl rfl ?_
 intro p2 _ H'; clear H; have H := H'; clear H'
 refine s_al H rfl inf99 ?_
 intro p4 _ H'; clear H; have H := H'; clear H'
 refine k_nc ?_
 refine k_sg ?_
 refine s_al H rfl inf99 ?_
 intro p5 _ H'; clear H; have H := H'; clear H'
 refine k_nc ?_
 refine k_seq ?_
 refine k_sg ?_
 refine s_run rfl rfl (rai rfl) ?_
 refine k_nc ?_
 refine k_b ?_
 refine k_loop (fun z f W => ∃ k : Nat, k ≤ 16 ∧ z = 16 - k ∧ f 1 = .int .i64 a ∧ f 2 = ptr p2 ∧ f 4 = ptr p4 ∧ f 5 = ptr p5 ∧ f 6 = .int .i64 k ∧ Heap w [] [blk p5 ((getsA d.cache a k ++ List.replicate (16 - k) 0).map (Value.int .u64)) 99, blk p4 ((List.replicate 16 0).map (Value.int .u64)) 99, blk p2 [.slice s.A0 m s.c0, .slice s.A1 m s.c1, .slice s.A2 m s.c2, .slice s.A3 m s.c3, .slice s.A4 m s.c4, .int .i64 d.steps, .int .i64 s.rf, .bool d.dead] 55] W) 16 ⟨0, by omega, rfl, rfl, rfl, rfl, rfl, rfl, H⟩ ?_
 clear H
 rintro z f W ⟨k, hk, rfl, f1, f2, f4, f5, f6, H⟩
 obtain ⟨f, rfl⟩ := live5 f1 f2 f4 f5 f6
 clear f1 f2 f4 f5 f6
 by_cases hlt : k < 16
 ·obtain ⟨c8, hv8⟩ : ∃ c0, ((getsA d.cache a k ++ List.replicate (16 - k) 0).map (Value.int .u64))[k]? = some c0 := ⟨_, List.getElem?_eq_getElem (by rw [List.length_map, List.length_append, getsA_len, List.length_replicate]; omega)⟩
  refine k_seq ?_
  refine k_sg ?_
  refine s_run rfl rfl (rmi rfl) ?_
  refine s_run rfl rfl (r_lssT rfl rfl (by omega)) ?_
  refine k_nc ?_
  refine k_t rfl ?_
  refine k_skip ?_
  refine c_norm ?_
  refine k_seq ?_
  refine k_b ?_
  refine k_rg ?_
  refine s_run rfl rfl (rmi rfl) ?_
  refine s_run rfl rfl (r_fa0 rfl fo55_0) ?_
  refine s_run rfl rfl (r_lo H 2 rfl rfl rfl ag52) ?_
  refine s_run rfl rfl (rmi rfl) ?_
  refine s_run rfl rfl (rmi rfl) ?_
  refine s_run rfl rfl (r_add rfl rfl (wI (by omega))) ?_
  refine s_call rfl (rGet s.A0 m s.c0 ((a : Int) + (k : Int)) d.cache _ (hnow.later H.only (by simp)) hc hm) (ca92 rfl) ?_
  rintro e W1 ⟨rfl, H'⟩
  refine ⟨_, rfl, ?_⟩
  have H := H.same H'; clear H'
  refine s_run rfl rfl (r_ia0 (i := k) rfl rfl (by omega) (by omega) Try.underlying99 sz22) ?_
  refine s_st (u := .int _ _) H 0 rfl rfl rfl rfl hv8 rfl sz22 ?_
  clear H; intro _ H; simp only [jA, jB, jC, jD, jE, jF, jG, jH, jI, jJ, jK, Nat.reduceAdd] at H
  refine k_nil ?_
  refine b_norm ?_
  refine c_norm ?_
  refine k_rg ?_
  refine s_run rfl rfl (rmi rfl) ?_
  refine s_run rfl rfl (r_add rfl rfl (wI (by omega))) ?_
  refine s_run rfl rfl (rai rfl) ?_
  refine k_nil ?_
  refine c_round ?_
  rw [← List.map_set, getsA_set d.cache a k hlt] at H
  refine ⟨_, _, ?_, rfl, k + 1, by omega, rfl, rfl, rfl, rfl, rfl, rfl, H⟩
  omega
 ·obtain rfl : k = 16 := by omega
  rw [Nat.sub_self, List.replicate_zero, List.append_nil] at H
  have hq16 := getsA_len d.cache a 16
  generalize getsA d.cache a 16 = q at *
  obtain ⟨l0, l1, l2, l3, l4, l5, l6, l7, l8, l9, l10, l11, l12, l13, l14, l15, rfl⟩ := list16 hq16
  refine k_seq ?_
  refine k_sg ?_
  refine s_run rfl rfl (rmi rfl) ?_
  refine s_run rfl rfl (r_lssF rfl rfl (by omega)) ?_
  refine k_nc ?_
  refine k_f rfl ?_
  refine k_exit ?_
  refine c_exit ?_
  refine c_exit ?_
  refine b_hit ?_
  refine c_norm ?_
  refine k_sg ?_
  refine s_run rfl rfl (r_la H 0 rfl rfl rfl ag99 sz99) ?_
  refine s_sw H 1 rfl rfl rfl rfl rfl rfl rfl sz99 ?_
  clear H; intro _ H; simp only [jA, jB, jC, jD, jE, jF, jG, jH, jI, jJ, jK, Nat.reduceAdd] at H
  refine k_nc ?_
  refine k_ret ?_
  refine fx1r rfl (rv_a H 1 rfl rfl rfl ag99 sz99) ?_
  exact ⟨rfl, H.only⟩
/-- the document's table as cells -/
def refTab (s : RefS) (d : Nv.D) (m : Nat) (E : Int) (R : List Int) (k : Int) (V : List Int) : List Value := refCells s d m ++ (.int .u64 E :: (R.map (Value.int .i64) ++ (.int .i64 k :: V.map (Value.int .i64))))
def nilTab : List Value := [.slice none 0 0, .slice none 0 0, .slice none 0 0, .slice none 0 0, .slice none 0 0, .int .i64 0, .int .i64 0, .bool false, .int .u64 0, .int .i64 0, .int .i64 0, .int .i64 0, .int .i64 0, .int .i64 0, .int .i64 0, .int .i64 0, .int .i64 0, .int .i64 0, .int .i64 0, .int .i64 0, .int .i64 0, .int .i64 0, .int .i64 0, .int .i64 0, .int .i64 0, .int .i64 0]
theorem rtOpen (s : RefS) (d : Nv.D) (m : Nat) (F : List Nat) (w : World) (hr : RefOk w F s d m) (hm : m ≤ 100000) (hU : Im.U d.cache) :
  Calls Try.prog 62 [.agg (refCells s d m).toArray].toArray w fun e w' =>
   (chK (getsA d.cache 64 16) (getsA d.cache 128 16) = -1 ∧ e = .returned (.tuple #[.agg nilTab.toArray, .int .i64 23]) ∧ Only [] w w') ∨
   (chK (getsA d.cache 64 16) (getsA d.cache 128 16) ≠ -1 ∧ e = .returned (.tuple #[.agg (refTab s d m (chE (getsA d.cache 64 16) (getsA d.cache 128 16)) (chR (getsA d.cache 64 16) (getsA d.cache 128 16)) (chK (getsA d.cache 64 16) (getsA d.cache 128 16)) (chR (getsA d.cache 64 16) (getsA d.cache 128 16))).toArray, .int .i64 0]) ∧ Only [] w w') := by
 have H := Heap.nil w
 have hR0 := fun w hr => rtRead s d m 64 F w hr hm (by omega)
 have hR1 := fun w hr => rtRead s d m 128 F w hr hm (by omega)
 rw [refE] at hR0 hR1 ⊢
 have hC := fun w => rtChoose _ _ w (getsA_len d.cache 64 16) (getsA_len d.cache 128 16) (getsA_U hU 64 16) (getsA_U hU 128 16)
 have hl := chR_len _ _ (getsA_len d.cache 64 16) (getsA_len d.cache 128 16)
 have hor := chK_or (getsA d.cache 64 16) (getsA d.cache 128 16)
 generalize getsA d.cache 64 16 = a at *
 generalize getsA d.cache 128 16 = b at *
 generalize chE a b = E at *
 generalize chR a b = R at *
 generalize chK a b = K at *
 obtain ⟨r0, r1, r2, r3, r4, r5, r6, r7, rfl⟩ := list8 hl
 simp only [List.map_cons, List.map_nil] at hC
 refine k_in (N := 23) Try.func62 rfl rfl rfl ?_
 refine k_sg ?_
 refine s_box H rfl rfl ?_
 intro p1 _ H'; clear H; have H := H'; clear H'
 refine s_al H rfl inf91 ?_
 intro p2 _ H'; clear H; have H := H'; clear H'
 refine s_run rfl rfl (rai rfl) ?_
 refine k_nc ?_
 refine k_seq ?_
 refine k_cut (fun f W => ∃ p4, f 1 = ptr p1 ∧ f 2 = ptr p2 ∧ f 4 = ptr p4 ∧ f 5 = .int .i64 K ∧ Heap w [] [blk p4 [.int .u64 E, .int .i64 r0, .int .i64 r1, .int .i64 r2, .int .i64 r3, .int .i64 r4, .int .i64 r5, .int .i64 r6, .int .i64 r7] 89, blk p2 nilTab 91, blk p1 [.slice s.A0 m s.c0, .slice s.A1 m s.c1, .slice s.A2 m s.c2, .slice s.A3 m s.c3, .slice s.A4 m s.c4, .int .i64 d.steps, .int .i64 s.rf, .bool d.dead] 55] W) ?_ ?_
 ·refine k_trF mixed ?_; have H' := H.drew; clear H; have H := H'; clear H'
  refine t_up3 0 2 8 (by kernel_rfl) ?_ ?_ ?_
  ·refine up_mk rfl ?_
   refine s_run rfl rfl (r_la H 1 rfl rfl rfl ag55 sz55) ?_
   refine k_nil ?_
   refine t_on trivial ?_
   refine t_up3 1 2 8 (by kernel_rfl) ?_ ?_ ?_
   ·refine up_mk rfl ?_
    refine s_call rfl (hR0 _ (hr.later (G := []) H.only (by simp))) (ca108 rfl) ?_
    rintro e W1 ⟨rfl, H'⟩
    refine ⟨_, rfl, ?_⟩
    have H := H.same H'; clear H'
    refine k_nil ?_
    refine t_on trivial ?_
    refine t_up2 2 8 (by kernel_rfl) ?_ ?_
    ·refine up_mk rfl ?_
     refine s_run rfl rfl (r_la H 1 rfl rfl rfl ag55 sz55) ?_
     refine k_nil ?_
     refine t_on trivial ?_
     refine t_up2 3 8 (by kernel_rfl) ?_ ?_
     ·refine up_mk rfl ?_
      refine s_call rfl (hR1 _ (hr.later (G := []) H.only (by simp))) (ca108 rfl) ?_
      rintro e W1 ⟨rfl, H'⟩
      refine ⟨_, rfl, ?_⟩
      have H := H.same H'; clear H'
      refine k_nil ?_
      refine t_on trivial ?_
      refine t_up2 4 8 (by kernel_rfl) ?_ ?_
      ·refine up_mk rfl ?_
       refine s_call rfl (hC _) (ca107 rfl) ?_
       rintro e W1 ⟨rfl, H'⟩
       refine ⟨_, rfl, ?_⟩
       have H := H.same H'; clear H'
       refine k_nil ?_
       refine t_on trivial ?_
       refine tqn 5 rfl rfl rfl (fun _ hS => r_mv (v := .tuple _) rfl) trivial ?_
       refine tqn 6 rfl rfl rfl (fun _ hS => r_ext (v := .agg _) rfl rfl) trivial ?_
       refine tqn 7 rfl rfl rfl (fun _ hS => r_ext (v := .int _ _) rfl rfl) trivial ?_
       refine t_up1 8 (by kernel_rfl) ?_
       refine up_mk rfl ?_
       refine s_al H rfl inf89 ?_
       intro p4 _ H'; clear H; have H := H'; clear H'
       refine k_nil ?_
       refine t_on trivial ?_
       refine t_up1 9 (by kernel_rfl) ?_
       refine up_mk rfl ?_
       refine s_sw H 0 rfl rfl rfl rfl rfl rfl rfl sz89 ?_
       clear H; intro _ H; simp only [jA, jB, jC, jD, jE, jF, jG, jH, jI, jJ, jK, Nat.reduceAdd] at H
       refine k_nil ?_
       refine t_on trivial ?_
       refine tqn 10 rfl rfl rfl (fun _ hS => r_as (v := .int _ _) rfl) trivial ?_
       refine t_done (by kernel_rfl) ?_
       refine k_met ?_
       exact ⟨_, rfl, rfl, rfl, rfl, H⟩
      ·refine up_mk rfl ?_
       refine s_al H rfl inf89 ?_
       intro p4 _ H'; clear H; have H := H'; clear H'
       refine k_nil ?_
       refine t_on trivial ?_
       refine t_up1 4 (by kernel_rfl) ?_
       refine up_mk rfl ?_
       refine s_call rfl (hC _) (ca107 rfl) ?_
       rintro e W1 ⟨rfl, H'⟩
       refine ⟨_, rfl, ?_⟩
       have H := H.same H'; clear H'
       refine k_nil ?_
       refine t_on trivial ?_
       refine tqn 5 rfl rfl rfl (fun _ hS => r_mv (v := .tuple _) rfl) trivial ?_
       refine tqn 6 rfl rfl rfl (fun _ hS => r_ext (v := .agg _) rfl rfl) trivial ?_
       refine tqn 7 rfl rfl rfl (fun _ hS => r_ext (v := .int _ _) rfl rfl) trivial ?_
       refine t_up1 9 (by kernel_rfl) ?_
       refine up_mk rfl ?_
       refine s_sw H 0 rfl rfl rfl rfl rfl rfl rfl sz89 ?_
       clear H; intro _ H; simp only [jA, jB, jC, jD, jE, jF, jG, jH, jI, jJ, jK, Nat.reduceAdd] at H
       refine k_nil ?_
       refine t_on trivial ?_
       refine tqn 10 rfl rfl rfl (fun _ hS => r_as (v := .int _ _) rfl) trivial ?_
       refine t_done (by kernel_rfl) ?_
       refine k_met ?_
       exact ⟨_, rfl, rfl, rfl, rfl, H⟩
     ·refine up_mk rfl ?_
      refine s_al H rfl inf89 ?_
      intro p4 _ H'; clear H; have H := H'; clear H'
      refine k_nil ?_
      refine t_on trivial ?_
      refine t_up1 3 (by kernel_rfl) ?_
      refine up_mk rfl ?_
      refine s_call rfl (hR1 _ (hr.later (G := []) H.only (by simp))) (ca108 rfl) ?_
      rintro e W1 ⟨rfl, H'⟩
      refine ⟨_, rfl, ?_⟩
      have H := H.same H'; clear H'
      refine k_nil ?_
      refine t_on trivial ?_
      refine t_up1 4 (by kernel_rfl) ?_
      refine up_mk rfl ?_
      refine s_call rfl (hC _) (ca107 rfl) ?_
      rintro e W1 ⟨rfl, H'⟩
      refine ⟨_, rfl, ?_⟩
      have H := H.same H'; clear H'
      refine k_nil ?_
      refine t_on trivial ?_
      refine tqn 5 rfl rfl rfl (fun _ hS => r_mv (v := .tuple _) rfl) trivial ?_
      refine tqn 6 rfl rfl rfl (fun _ hS => r_ext (v := .agg _) rfl rfl) trivial ?_
      refine tqn 7 rfl rfl rfl (fun _ hS => r_ext (v := .int _ _) rfl rfl) trivial ?_
      refine t_up1 9 (by kernel_rfl) ?_
      refine up_mk rfl ?_
      refine s_sw H 0 rfl rfl rfl rfl rfl rfl rfl sz89 ?_
      clear H; intro _ H; simp only [jA, jB, jC, jD, jE, jF, jG, jH, jI, jJ, jK, Nat.reduceAdd] at H
      refine k_nil ?_
      refine t_on trivial ?_
      refine tqn 10 rfl rfl rfl (fun _ hS => r_as (v := .int _ _) rfl) trivial ?_
      refine t_done (by kernel_rfl) ?_
      refine k_met ?_
      exact ⟨_, rfl, rfl, rfl, rfl, H⟩
    ·refine up_mk rfl ?_
     refine s_al H rfl inf89 ?_
     intro p4 _ H'; clear H; have H := H'; clear H'
     refine k_nil ?_
     refine t_on trivial ?_
     refine t_up1 2 (by kernel_rfl) ?_
     refine up_mk rfl ?_
     refine s_run rfl rfl (r_la H 2 rfl rfl rfl ag55 sz55) ?_
     refine k_nil ?_
     refine t_on trivial ?_
     refine t_up1 3 (by kernel_rfl) ?_
     refine up_mk rfl ?_
     refine s_call rfl (hR1 _ (hr.later (G := []) H.only (by simp))) (ca108 rfl) ?_
     rintro e W1 ⟨rfl, H'⟩
     refine ⟨_, rfl, ?_⟩
     have H := H.same H'; clear H'
     refine k_nil ?_
     refine t_on trivial ?_
     refine t_up1 4 (by kernel_rfl) ?_
     refine up_mk rfl ?_
     refine s_call rfl (hC _) (ca107 rfl) ?_
     rintro e W1 ⟨rfl, H'⟩
     refine ⟨_, rfl, ?_⟩
     have H := H.same H'; clear H'
     refine k_nil ?_
     refine t_on trivial ?_
     refine tqn 5 rfl rfl rfl (fun _ hS => r_mv (v := .tuple _) rfl) trivial ?_
     refine tqn 6 rfl rfl rfl (fun _ hS => r_ext (v := .agg _) rfl rfl) trivial ?_
     refine tqn 7 rfl rfl rfl (fun _ hS => r_ext (v := .int _ _) rfl rfl) trivial ?_
     refine t_up1 9 (by kernel_rfl) ?_
     refine up_mk rfl ?_
     refine s_sw H 0 rfl rfl rfl rfl rfl rfl rfl sz89 ?_
     clear H; intro _ H; simp only [jA, jB, jC, jD, jE, jF, jG, jH, jI, jJ, jK, Nat.reduceAdd] at H
     refine k_nil ?_
     refine t_on trivial ?_
     refine tqn 10 rfl rfl rfl (fun _ hS => r_as (v := .int _ _) rfl) trivial ?_
     refine t_done (by kernel_rfl) ?_
     refine k_met ?_
     exact ⟨_, rfl, rfl, rfl, rfl, H⟩
   ·refine up_mk rfl ?_
    refine s_run rfl rfl (r_la H 1 rfl rfl rfl ag55 sz55) ?_
    refine k_nil ?_
    refine t_on trivial ?_
    refine t_up2 1 8 (by kernel_rfl) ?_ ?_
    ·refine up_mk rfl ?_
     refine s_call rfl (hR0 _ (hr.later (G := []) H.only (by simp))) (ca108 rfl) ?_
     rintro e W1 ⟨rfl, H'⟩
     refine ⟨_, rfl, ?_⟩
     have H := H.same H'; clear H'
     refine k_nil ?_
     refine t_on trivial ?_
     refine t_up2 3 8 (by kernel_rfl) ?_ ?_
     ·refine up_mk rfl ?_
      refine s_call rfl (hR1 _ (hr.later (G := []) H.only (by simp))) (ca108 rfl) ?_
      rintro e W1 ⟨rfl, H'⟩
      refine ⟨_, rfl, ?_⟩
      have H := H.same H'; clear H'
      refine k_nil ?_
      refine t_on trivial ?_
      refine t_up2 4 8 (by kernel_rfl) ?_ ?_
      ·refine up_mk rfl ?_
       refine s_call rfl (hC _) (ca107 rfl) ?_
       rintro e W1 ⟨rfl, H'⟩
       refine ⟨_, rfl, ?_⟩
       have H := H.same H'; clear H'
       refine k_nil ?_
       refine t_on trivial ?_
       refine tqn 5 rfl rfl rfl (fun _ hS => r_mv (v := .tuple _) rfl) trivial ?_
       refine tqn 6 rfl rfl rfl (fun _ hS => r_ext (v := .agg _) rfl rfl) trivial ?_
       refine tqn 7 rfl rfl rfl (fun _ hS => r_ext (v := .int _ _) rfl rfl) trivial ?_
       refine t_up1 8 (by kernel_rfl) ?_
       refine up_mk rfl ?_
       refine s_al H rfl inf89 ?_
       intro p4 _ H'; clear H; have H := H'; clear H'
       refine k_nil ?_
       refine t_on trivial ?_
       refine t_up1 9 (by kernel_rfl) ?_
       refine up_mk rfl ?_
       refine s_sw H 0 rfl rfl rfl rfl rfl rfl rfl sz89 ?_
       clear H; intro _ H; simp only [jA, jB, jC, jD, jE, jF, jG, jH, jI, jJ, jK, Nat.reduceAdd] at H
       refine k_nil ?_
       refine t_on trivial ?_
       refine tqn 10 rfl rfl rfl (fun _ hS => r_as (v := .int _ _) rfl) trivial ?_
       refine t_done (by kernel_rfl) ?_
       refine k_met ?_
       exact ⟨_, rfl, rfl, rfl, rfl, H⟩
      ·refine up_mk rfl ?_
       refine s_al H rfl inf89 ?_
       intro p4 _ H'; clear H; have H := H'; clear H'
       refine k_nil ?_
       refine t_on trivial ?_
       refine t_up1 4 (by kernel_rfl) ?_
       refine up_mk rfl ?_
       refine s_call rfl (hC _) (ca107 rfl) ?_
       rintro e W1 ⟨rfl, H'⟩
       refine ⟨_, rfl, ?_⟩
       have H := H.same H'; clear H'
       refine k_nil ?_
       refine t_on trivial ?_
       refine tqn 5 rfl rfl rfl (fun _ hS => r_mv (v := .tuple _) rfl) trivial ?_
       refine tqn 6 rfl rfl rfl (fun _ hS => r_ext (v := .agg _) rfl rfl) trivial ?_
       refine tqn 7 rfl rfl rfl (fun _ hS => r_ext (v := .int _ _) rfl rfl) trivial ?_
       refine t_up1 9 (by kernel_rfl) ?_
       refine up_mk rfl ?_
       refine s_sw H 0 rfl rfl rfl rfl rfl rfl rfl sz89 ?_
       clear H; intro _ H; simp only [jA, jB, jC, jD, jE, jF, jG, jH, jI, jJ, jK, Nat.reduceAdd] at H
       refine k_nil ?_
       refine t_on trivial ?_
       refine tqn 10 rfl rfl rfl (fun _ hS => r_as (v := .int _ _) rfl) trivial ?_
       refine t_done (by kernel_rfl) ?_
       refine k_met ?_
       exact ⟨_, rfl, rfl, rfl, rfl, H⟩
     ·refine up_mk rfl ?_
      refine s_al H rfl inf89 ?_
      intro p4 _ H'; clear H; have H := H'; clear H'
      refine k_nil ?_
      refine t_on trivial ?_
      refine t_up1 3 (by kernel_rfl) ?_
      refine up_mk rfl ?_
      refine s_call rfl (hR1 _ (hr.later (G := []) H.only (by simp))) (ca108 rfl) ?_
      rintro e W1 ⟨rfl, H'⟩
      refine ⟨_, rfl, ?_⟩
      have H := H.same H'; clear H'
      refine k_nil ?_
      refine t_on trivial ?_
      refine t_up1 4 (by kernel_rfl) ?_
      refine up_mk rfl ?_
      refine s_call rfl (hC _) (ca107 rfl) ?_
      rintro e W1 ⟨rfl, H'⟩
      refine ⟨_, rfl, ?_⟩
      have H := H.same H'; clear H'
      refine k_nil ?_
      refine t_on trivial ?_
      refine tqn 5 rfl rfl rfl (fun _ hS => r_mv (v := .tuple _) rfl) trivial ?_
      refine tqn 6 rfl rfl rfl (fun _ hS => r_ext (v := .agg _) rfl rfl) trivial ?_
      refine tqn 7 rfl rfl rfl (fun _ hS => r_ext (v := .int _ _) rfl rfl) trivial ?_
      refine t_up1 9 (by kernel_rfl) ?_
      refine up_mk rfl ?_
      refine s_sw H 0 rfl rfl rfl rfl rfl rfl rfl sz89 ?_
      clear H; intro _ H; simp only [jA, jB, jC, jD, jE, jF, jG, jH, jI, jJ, jK, Nat.reduceAdd] at H
      refine k_nil ?_
      refine t_on trivial ?_
      refine tqn 10 rfl rfl rfl (fun _ hS => r_as (v := .int _ _) rfl) trivial ?_
      refine t_done (by kernel_rfl) ?_
      refine k_met ?_
      exact ⟨_, rfl, rfl, rfl, rfl, H⟩
    ·refine up_mk rfl ?_
     refine s_al H rfl inf89 ?_
     intro p4 _ H'; clear H; have H := H'; clear H'
     refine k_nil ?_
     refine t_on trivial ?_
     refine t_up1 1 (by kernel_rfl) ?_
     refine up_mk rfl ?_
     refine s_call rfl (hR0 _ (hr.later (G := []) H.only (by simp))) (ca108 rfl) ?_
     rintro e W1 ⟨rfl, H'⟩
     refine ⟨_, rfl, ?_⟩
     have H := H.same H'; clear H'
     refine k_nil ?_
     refine t_on trivial ?_
     refine t_up1 3 (by kernel_rfl) ?_
     refine up_mk rfl ?_
     refine s_call rfl (hR1 _ (hr.later (G := []) H.only (by simp))) (ca108 rfl) ?_
     rintro e W1 ⟨rfl, H'⟩
     refine ⟨_, rfl, ?_⟩
     have H := H.same H'; clear H'
     refine k_nil ?_
     refine t_on trivial ?_
     refine t_up1 4 (by kernel_rfl) ?_
     refine up_mk rfl ?_
     refine s_call rfl (hC _) (ca107 rfl) ?_
     rintro e W1 ⟨rfl, H'⟩
     refine ⟨_, rfl, ?_⟩
     have H := H.same H'; clear H'
     refine k_nil ?_
     refine t_on trivial ?_
     refine tqn 5 rfl rfl rfl (fun _ hS => r_mv (v := .tuple _) rfl) trivial ?_
     refine tqn 6 rfl rfl rfl (fun _ hS => r_ext (v := .agg _) rfl rfl) trivial ?_
     refine tqn 7 rfl rfl rfl (fun _ hS => r_ext (v := .int _ _) rfl rfl) trivial ?_
     refine t_up1 9 (by kernel_rfl) ?_
     refine up_mk rfl ?_
     refine s_sw H 0 rfl rfl rfl rfl rfl rfl rfl sz89 ?_
     clear H; intro _ H; simp only [jA, jB, jC, jD, jE, jF, jG, jH, jI, jJ, jK, Nat.reduceAdd] at H
     refine k_nil ?_
     refine t_on trivial ?_
     refine tqn 10 rfl rfl rfl (fun _ hS => r_as (v := .int _ _) rfl) trivial ?_
     refine t_done (by kernel_rfl) ?_
     refine k_met ?_
     exact ⟨_, rfl, rfl, rfl, rfl, H⟩
   ·refine up_mk rfl ?_
    refine s_al H rfl inf89 ?_
    intro p4 _ H'; clear H; have H := H'; clear H'
    refine k_nil ?_
    refine t_on trivial ?_
    refine t_up2 1 2 (by kernel_rfl) ?_ ?_
    ·refine up_mk rfl ?_
     refine s_call rfl (hR0 _ (hr.later (G := []) H.only (by simp))) (ca108 rfl) ?_
     rintro e W1 ⟨rfl, H'⟩
     refine ⟨_, rfl, ?_⟩
     have H := H.same H'; clear H'
     refine k_nil ?_
     refine t_on trivial ?_
     refine t_up1 2 (by kernel_rfl) ?_
     refine up_mk rfl ?_
     refine s_run rfl rfl (r_la H 2 rfl rfl rfl ag55 sz55) ?_
     refine k_nil ?_
     refine t_on trivial ?_
     refine t_up1 3 (by kernel_rfl) ?_
     refine up_mk rfl ?_
     refine s_call rfl (hR1 _ (hr.later (G := []) H.only (by simp))) (ca108 rfl) ?_
     rintro e W1 ⟨rfl, H'⟩
     refine ⟨_, rfl, ?_⟩
     have H := H.same H'; clear H'
     refine k_nil ?_
     refine t_on trivial ?_
     refine t_up1 4 (by kernel_rfl) ?_
     refine up_mk rfl ?_
     refine s_call rfl (hC _) (ca107 rfl) ?_
     rintro e W1 ⟨rfl, H'⟩
     refine ⟨_, rfl, ?_⟩
     have H := H.same H'; clear H'
     refine k_nil ?_
     refine t_on trivial ?_
     refine tqn 5 rfl rfl rfl (fun _ hS => r_mv (v := .tuple _) rfl) trivial ?_
     refine tqn 6 rfl rfl rfl (fun _ hS => r_ext (v := .agg _) rfl rfl) trivial ?_
     refine tqn 7 rfl rfl rfl (fun _ hS => r_ext (v := .int _ _) rfl rfl) trivial ?_
     refine t_up1 9 (by kernel_rfl) ?_
     refine up_mk rfl ?_
     refine s_sw H 0 rfl rfl rfl rfl rfl rfl rfl sz89 ?_
     clear H; intro _ H; simp only [jA, jB, jC, jD, jE, jF, jG, jH, jI, jJ, jK, Nat.reduceAdd] at H
     refine k_nil ?_
     refine t_on trivial ?_
     refine tqn 10 rfl rfl rfl (fun _ hS => r_as (v := .int _ _) rfl) trivial ?_
     refine t_done (by kernel_rfl) ?_
     refine k_met ?_
     exact ⟨_, rfl, rfl, rfl, rfl, H⟩
    ·refine up_mk rfl ?_
     refine s_run rfl rfl (r_la H 2 rfl rfl rfl ag55 sz55) ?_
     refine k_nil ?_
     refine t_on trivial ?_
     refine t_up1 1 (by kernel_rfl) ?_
     refine up_mk rfl ?_
     refine s_call rfl (hR0 _ (hr.later (G := []) H.only (by simp))) (ca108 rfl) ?_
     rintro e W1 ⟨rfl, H'⟩
     refine ⟨_, rfl, ?_⟩
     have H := H.same H'; clear H'
     refine k_nil ?_
     refine t_on trivial ?_
     refine t_up1 3 (by kernel_rfl) ?_
     refine up_mk rfl ?_
     refine s_call rfl (hR1 _ (hr.later (G := []) H.only (by simp))) (ca108 rfl) ?_
     rintro e W1 ⟨rfl, H'⟩
     refine ⟨_, rfl, ?_⟩
     have H := H.same H'; clear H'
     refine k_nil ?_
     refine t_on trivial ?_
     refine t_up1 4 (by kernel_rfl) ?_
     refine up_mk rfl ?_
     refine s_call rfl (hC _) (ca107 rfl) ?_
     rintro e W1 ⟨rfl, H'⟩
     refine ⟨_, rfl, ?_⟩
     have H := H.same H'; clear H'
     refine k_nil ?_
     refine t_on trivial ?_
     refine tqn 5 rfl rfl rfl (fun _ hS => r_mv (v := .tuple _) rfl) trivial ?_
     refine tqn 6 rfl rfl rfl (fun _ hS => r_ext (v := .agg _) rfl rfl) trivial ?_
     refine tqn 7 rfl rfl rfl (fun _ hS => r_ext (v := .int _ _) rfl rfl) trivial ?_
     refine t_up1 9 (by kernel_rfl) ?_
     refine up_mk rfl ?_
     refine s_sw H 0 rfl rfl rfl rfl rfl rfl rfl sz89 ?_
     clear H; intro _ H; simp only [jA, jB, jC, jD, jE, jF, jG, jH, jI, jJ, jK, Nat.reduceAdd] at H
     refine k_nil ?_
     refine t_on trivial ?_
     refine tqn 10 rfl rfl rfl (fun _ hS => r_as (v := .int _ _) rfl) trivial ?_
     refine t_done (by kernel_rfl) ?_
     refine k_met ?_
     exact ⟨_, rfl, rfl, rfl, rfl, H⟩
  ·refine up_mk rfl ?_
   refine s_run rfl rfl (r_la H 1 rfl rfl rfl ag55 sz55) ?_
   refine k_nil ?_
   refine t_on trivial ?_
   refine t_up2 0 8 (by kernel_rfl) ?_ ?_
   ·refine up_mk rfl ?_
    refine s_run rfl rfl (r_la H 1 rfl rfl rfl ag55 sz55) ?_
    refine k_nil ?_
    refine t_on trivial ?_
    refine t_up2 1 8 (by kernel_rfl) ?_ ?_
    ·refine up_mk rfl ?_
     refine s_call rfl (hR0 _ (hr.later (G := []) H.only (by simp))) (ca108 rfl) ?_
     rintro e W1 ⟨rfl, H'⟩
     refine ⟨_, rfl, ?_⟩
     have H := H.same H'; clear H'
     refine k_nil ?_
     refine t_on trivial ?_
     refine t_up2 3 8 (by kernel_rfl) ?_ ?_
     ·refine up_mk rfl ?_
      refine s_call rfl (hR1 _ (hr.later (G := []) H.only (by simp))) (ca108 rfl) ?_
      rintro e W1 ⟨rfl, H'⟩
      refine ⟨_, rfl, ?_⟩
      have H := H.same H'; clear H'
      refine k_nil ?_
      refine t_on trivial ?_
      refine t_up2 4 8 (by kernel_rfl) ?_ ?_
      ·refine up_mk rfl ?_
       refine s_call rfl (hC _) (ca107 rfl) ?_
       rintro e W1 ⟨rfl, H'⟩
       refine ⟨_, rfl, ?_⟩
       have H := H.same H'; clear H'
       refine k_nil ?_
       refine t_on trivial ?_
       refine tqn 5 rfl rfl rfl (fun _ hS => r_mv (v := .tuple _) rfl) trivial ?_
       refine tqn 6 rfl rfl rfl (fun _ hS => r_ext (v := .agg _) rfl rfl) trivial ?_
       refine tqn 7 rfl rfl rfl (fun _ hS => r_ext (v := .int _ _) rfl rfl) trivial ?_
       refine t_up1 8 (by kernel_rfl) ?_
       refine up_mk rfl ?_
       refine s_al H rfl inf89 ?_
       intro p4 _ H'; clear H; have H := H'; clear H'
       refine k_nil ?_
       refine t_on trivial ?_
       refine t_up1 9 (by kernel_rfl) ?_
       refine up_mk rfl ?_
       refine s_sw H 0 rfl rfl rfl rfl rfl rfl rfl sz89 ?_
       clear H; intro _ H; simp only [jA, jB, jC, jD, jE, jF, jG, jH, jI, jJ, jK, Nat.reduceAdd] at H
       refine k_nil ?_
       refine t_on trivial ?_
       refine tqn 10 rfl rfl rfl (fun _ hS => r_as (v := .int _ _) rfl) trivial ?_
       refine t_done (by kernel_rfl) ?_
       refine k_met ?_
       exact ⟨_, rfl, rfl, rfl, rfl, H⟩
      ·refine up_mk rfl ?_
       refine s_al H rfl inf89 ?_
       intro p4 _ H'; clear H; have H := H'; clear H'
       refine k_nil ?_
       refine t_on trivial ?_
       refine t_up1 4 (by kernel_rfl) ?_
       refine up_mk rfl ?_
       refine s_call rfl (hC _) (ca107 rfl) ?_
       rintro e W1 ⟨rfl, H'⟩
       refine ⟨_, rfl, ?_⟩
       have H := H.same H'; clear H'
       refine k_nil ?_
       refine t_on trivial ?_
       refine tqn 5 rfl rfl rfl (fun _ hS => r_mv (v := .tuple _) rfl) trivial ?_
       refine tqn 6 rfl rfl rfl (fun _ hS => r_ext (v := .agg _) rfl rfl) trivial ?_
       refine tqn 7 rfl rfl rfl (fun _ hS => r_ext (v := .int _ _) rfl rfl) trivial ?_
       refine t_up1 9 (by kernel_rfl) ?_
       refine up_mk rfl ?_
       refine s_sw H 0 rfl rfl rfl rfl rfl rfl rfl sz89 ?_
       clear H; intro _ H; simp only [jA, jB, jC, jD, jE, jF, jG, jH, jI, jJ, jK, Nat.reduceAdd] at H
       refine k_nil ?_
       refine t_on trivial ?_
       refine tqn 10 rfl rfl rfl (fun _ hS => r_as (v := .int _ _) rfl) trivial ?_
       refine t_done (by kernel_rfl) ?_
       refine k_met ?_
       exact ⟨_, rfl, rfl, rfl, rfl, H⟩
     ·refine up_mk rfl ?_
      refine s_al H rfl inf89 ?_
      intro p4 _ H'; clear H; have H := H'; clear H'
      refine k_nil ?_
      refine t_on trivial ?_
      refine t_up1 3 (by kernel_rfl) ?_
      refine up_mk rfl ?_
      refine s_call rfl (hR1 _ (hr.later (G := []) H.only (by simp))) (ca108 rfl) ?_
      rintro e W1 ⟨rfl, H'⟩
      refine ⟨_, rfl, ?_⟩
      have H := H.same H'; clear H'
      refine k_nil ?_
      refine t_on trivial ?_
      refine t_up1 4 (by kernel_rfl) ?_
      refine up_mk rfl ?_
      refine s_call rfl (hC _) (ca107 rfl) ?_
      rintro e W1 ⟨rfl, H'⟩
      refine ⟨_, rfl, ?_⟩
      have H := H.same H'; clear H'
      refine k_nil ?_
      refine t_on trivial ?_
      refine tqn 5 rfl rfl rfl (fun _ hS => r_mv (v := .tuple _) rfl) trivial ?_
      refine tqn 6 rfl rfl rfl (fun _ hS => r_ext (v := .agg _) rfl rfl) trivial ?_
      refine tqn 7 rfl rfl rfl (fun _ hS => r_ext (v := .int _ _) rfl rfl) trivial ?_
      refine t_up1 9 (by kernel_rfl) ?_
      refine up_mk rfl ?_
      refine s_sw H 0 rfl rfl rfl rfl rfl rfl rfl sz89 ?_
      clear H; intro _ H; simp only [jA, jB, jC, jD, jE, jF, jG, jH, jI, jJ, jK, Nat.reduceAdd] at H
      refine k_nil ?_
      refine t_on trivial ?_
      refine tqn 10 rfl rfl rfl (fun _ hS => r_as (v := .int _ _) rfl) trivial ?_
      refine t_done (by kernel_rfl) ?_
      refine k_met ?_
      exact ⟨_, rfl, rfl, rfl, rfl, H⟩
    ·refine up_mk rfl ?_
     refine s_al H rfl inf89 ?_
     intro p4 _ H'; clear H; have H := H'; clear H'
     refine k_nil ?_
     refine t_on trivial ?_
     refine t_up1 1 (by kernel_rfl) ?_
     refine up_mk rfl ?_
     refine s_call rfl (hR0 _ (hr.later (G := []) H.only (by simp))) (ca108 rfl) ?_
     rintro e W1 ⟨rfl, H'⟩
     refine ⟨_, rfl, ?_⟩
     have H := H.same H'; clear H'
     refine k_nil ?_
     refine t_on trivial ?_
     refine t_up1 3 (by kernel_rfl) ?_
     refine up_mk rfl ?_
     refine s_call rfl (hR1 _ (hr.later (G := []) H.only (by simp))) (ca108 rfl) ?_
     rintro e W1 ⟨rfl, H'⟩
     refine ⟨_, rfl, ?_⟩
     have H := H.same H'; clear H'
     refine k_nil ?_
     refine t_on trivial ?_
     refine t_up1 4 (by kernel_rfl) ?_
     refine up_mk rfl ?_
     refine s_call rfl (hC _) (ca107 rfl) ?_
     rintro e W1 ⟨rfl, H'⟩
     refine ⟨_, rfl, ?_⟩
     have H := H.same H'; clear H'
     refine k_nil ?_
     refine t_on trivial ?_
     refine tqn 5 rfl rfl rfl (fun _ hS => r_mv (v := .tuple _) rfl) trivial ?_
     refine tqn 6 rfl rfl rfl (fun _ hS => r_ext (v := .agg _) rfl rfl) trivial ?_
     refine tqn 7 rfl rfl rfl (fun _ hS => r_ext (v := .int _ _) rfl rfl) trivial ?_
     refine t_up1 9 (by kernel_rfl) ?_
     refine up_mk rfl ?_
     refine s_sw H 0 rfl rfl rfl rfl rfl rfl rfl sz89 ?_
     clear H; intro _ H; simp only [jA, jB, jC, jD, jE, jF, jG, jH, jI, jJ, jK, Nat.reduceAdd] at H
     refine k_nil ?_
     refine t_on trivial ?_
     refine tqn 10 rfl rfl rfl (fun _ hS => r_as (v := .int _ _) rfl) trivial ?_
     refine t_done (by kernel_rfl) ?_
     refine k_met ?_
     exact ⟨_, rfl, rfl, rfl, rfl, H⟩
   ·refine up_mk rfl ?_
    refine s_al H rfl inf89 ?_
    intro p4 _ H'; clear H; have H := H'; clear H'
    refine k_nil ?_
    refine t_on trivial ?_
    refine t_up1 0 (by kernel_rfl) ?_
    refine up_mk rfl ?_
    refine s_run rfl rfl (r_la H 2 rfl rfl rfl ag55 sz55) ?_
    refine k_nil ?_
    refine t_on trivial ?_
    refine t_up1 1 (by kernel_rfl) ?_
    refine up_mk rfl ?_
    refine s_call rfl (hR0 _ (hr.later (G := []) H.only (by simp))) (ca108 rfl) ?_
    rintro e W1 ⟨rfl, H'⟩
    refine ⟨_, rfl, ?_⟩
    have H := H.same H'; clear H'
    refine k_nil ?_
    refine t_on trivial ?_
    refine t_up1 3 (by kernel_rfl) ?_
    refine up_mk rfl ?_
    refine s_call rfl (hR1 _ (hr.later (G := []) H.only (by simp))) (ca108 rfl) ?_
    rintro e W1 ⟨rfl, H'⟩
    refine ⟨_, rfl, ?_⟩
    have H := H.same H'; clear H'
    refine k_nil ?_
    refine t_on trivial ?_
    refine t_up1 4 (by kernel_rfl) ?_
    refine up_mk rfl ?_
    refine s_call rfl (hC _) (ca107 rfl) ?_
    rintro e W1 ⟨rfl, H'⟩
    refine ⟨_, rfl, ?_⟩
    have H := H.same H'; clear H'
    refine k_nil ?_
    refine t_on trivial ?_
    refine tqn 5 rfl rfl rfl (fun _ hS => r_mv (v := .tuple _) rfl) trivial ?_
    refine tqn 6 rfl rfl rfl (fun _ hS => r_ext (v := .agg _) rfl rfl) trivial ?_
    refine tqn 7 rfl rfl rfl (fun _ hS => r_ext (v := .int _ _) rfl rfl) trivial ?_
    refine t_up1 9 (by kernel_rfl) ?_
    refine up_mk rfl ?_
    refine s_sw H 0 rfl rfl rfl rfl rfl rfl rfl sz89 ?_
    clear H; intro _ H; simp only [jA, jB, jC, jD, jE, jF, jG, jH, jI, jJ, jK, Nat.reduceAdd] at H
    refine k_nil ?_
    refine t_on trivial ?_
    refine tqn 10 rfl rfl rfl (fun _ hS => r_as (v := .int _ _) rfl) trivial ?_
    refine t_done (by kernel_rfl) ?_
    refine k_met ?_
    exact ⟨_, rfl, rfl, rfl, rfl, H⟩
  ·refine up_mk rfl ?_
   refine s_al H rfl inf89 ?_
   intro p4 _ H'; clear H; have H := H'; clear H'
   refine k_nil ?_
   refine t_on trivial ?_
   refine t_up2 0 2 (by kernel_rfl) ?_ ?_
   ·refine up_mk rfl ?_
    refine s_run rfl rfl (r_la H 2 rfl rfl rfl ag55 sz55) ?_
    refine k_nil ?_
    refine t_on trivial ?_
    refine t_up2 1 2 (by kernel_rfl) ?_ ?_
    ·refine up_mk rfl ?_
     refine s_call rfl (hR0 _ (hr.later (G := []) H.only (by simp))) (ca108 rfl) ?_
     rintro e W1 ⟨rfl, H'⟩
     refine ⟨_, rfl, ?_⟩
     have H := H.same H'; clear H'
     refine k_nil ?_
     refine t_on trivial ?_
     refine t_up1 2 (by kernel_rfl) ?_
     refine up_mk rfl ?_
     refine s_run rfl rfl (r_la H 2 rfl rfl rfl ag55 sz55) ?_
     refine k_nil ?_
     refine t_on trivial ?_
     refine t_up1 3 (by kernel_rfl) ?_
     refine up_mk rfl ?_
     refine s_call rfl (hR1 _ (hr.later (G := []) H.only (by simp))) (ca108 rfl) ?_
     rintro e W1 ⟨rfl, H'⟩
     refine ⟨_, rfl, ?_⟩
     have H := H.same H'; clear H'
     refine k_nil ?_
     refine t_on trivial ?_
     refine t_up1 4 (by kernel_rfl) ?_
     refine up_mk rfl ?_
     refine s_call rfl (hC _) (ca107 rfl) ?_
     rintro e W1 ⟨rfl, H'⟩
     refine ⟨_, rfl, ?_⟩
     have H := H.same H'; clear H'
     refine k_nil ?_
     refine t_on trivial ?_
     refine tqn 5 rfl rfl rfl (fun _ hS => r_mv (v := .tuple _) rfl) trivial ?_
     refine tqn 6 rfl rfl rfl (fun _ hS => r_ext (v := .agg _) rfl rfl) trivial ?_
     refine tqn 7 rfl rfl rfl (fun _ hS => r_ext (v := .int _ _) rfl rfl) trivial ?_
     refine t_up1 9 (by kernel_rfl) ?_
     refine up_mk rfl ?_
     refine s_sw H 0 rfl rfl rfl rfl rfl rfl rfl sz89 ?_
     clear H; intro _ H; simp only [jA, jB, jC, jD, jE, jF, jG, jH, jI, jJ, jK, Nat.reduceAdd] at H
     refine k_nil ?_
     refine t_on trivial ?_
     refine tqn 10 rfl rfl rfl (fun _ hS => r_as (v := .int _ _) rfl) trivial ?_
     refine t_done (by kernel_rfl) ?_
     refine k_met ?_
     exact ⟨_, rfl, rfl, rfl, rfl, H⟩
    ·refine up_mk rfl ?_
     refine s_run rfl rfl (r_la H 2 rfl rfl rfl ag55 sz55) ?_
     refine k_nil ?_
     refine t_on trivial ?_
     refine t_up1 1 (by kernel_rfl) ?_
     refine up_mk rfl ?_
     refine s_call rfl (hR0 _ (hr.later (G := []) H.only (by simp))) (ca108 rfl) ?_
     rintro e W1 ⟨rfl, H'⟩
     refine ⟨_, rfl, ?_⟩
     have H := H.same H'; clear H'
     refine k_nil ?_
     refine t_on trivial ?_
     refine t_up1 3 (by kernel_rfl) ?_
     refine up_mk rfl ?_
     refine s_call rfl (hR1 _ (hr.later (G := []) H.only (by simp))) (ca108 rfl) ?_
     rintro e W1 ⟨rfl, H'⟩
     refine ⟨_, rfl, ?_⟩
     have H := H.same H'; clear H'
     refine k_nil ?_
     refine t_on trivial ?_
     refine t_up1 4 (by kernel_rfl) ?_
     refine up_mk rfl ?_
     refine s_call rfl (hC _) (ca107 rfl) ?_
     rintro e W1 ⟨rfl, H'⟩
     refine ⟨_, rfl, ?_⟩
     have H := H.same H'; clear H'
     refine k_nil ?_
     refine t_on trivial ?_
     refine tqn 5 rfl rfl rfl (fun _ hS => r_mv (v := .tuple _) rfl) trivial ?_
     refine tqn 6 rfl rfl rfl (fun _ hS => r_ext (v := .agg _) rfl rfl) trivial ?_
     refine tqn 7 rfl rfl rfl (fun _ hS => r_ext (v := .int _ _) rfl rfl) trivial ?_
     refine t_up1 9 (by kernel_rfl) ?_
     refine up_mk rfl ?_
     refine s_sw H 0 rfl rfl rfl rfl rfl rfl rfl sz89 ?_
     clear H; intro _ H; simp only [jA, jB, jC, jD, jE, jF, jG, jH, jI, jJ, jK, Nat.reduceAdd] at H
     refine k_nil ?_
     refine t_on trivial ?_
     refine tqn 10 rfl rfl rfl (fun _ hS => r_as (v := .int _ _) rfl) trivial ?_
     refine t_done (by kernel_rfl) ?_
     refine k_met ?_
     exact ⟨_, rfl, rfl, rfl, rfl, H⟩
   ·refine up_mk rfl ?_
    refine s_run rfl rfl (r_la H 2 rfl rfl rfl ag55 sz55) ?_
    refine k_nil ?_
    refine t_on trivial ?_
    refine t_up1 0 (by kernel_rfl) ?_
    refine up_mk rfl ?_
    refine s_run rfl rfl (r_la H 2 rfl rfl rfl ag55 sz55) ?_
    refine k_nil ?_
    refine t_on trivial ?_
    refine t_up1 1 (by kernel_rfl) ?_
    refine up_mk rfl ?_
    refine s_call rfl (hR0 _ (hr.later (G := []) H.only (by simp))) (ca108 rfl) ?_
    rintro e W1 ⟨rfl, H'⟩
    refine ⟨_, rfl, ?_⟩
    have H := H.same H'; clear H'
    refine k_nil ?_
    refine t_on trivial ?_
    refine t_up1 3 (by kernel_rfl) ?_
    refine up_mk rfl ?_
    refine s_call rfl (hR1 _ (hr.later (G := []) H.only (by simp))) (ca108 rfl) ?_
    rintro e W1 ⟨rfl, H'⟩
    refine ⟨_, rfl, ?_⟩
    have H := H.same H'; clear H'
    refine k_nil ?_
    refine t_on trivial ?_
    refine t_up1 4 (by kernel_rfl) ?_
    refine up_mk rfl ?_
    refine s_call rfl (hC _) (ca107 rfl) ?_
    rintro e W1 ⟨rfl, H'⟩
    refine ⟨_, rfl, ?_⟩
    have H := H.same H'; clear H'
    refine k_nil ?_
    refine t_on trivial ?_
    refine tqn 5 rfl rfl rfl (fun _ hS => r_mv (v := .tuple _) rfl) trivial ?_
    refine tqn 6 rfl rfl rfl (fun _ hS => r_ext (v := .agg _) rfl rfl) trivial ?_
    refine tqn 7 rfl rfl rfl (fun _ hS => r_ext (v := .int _ _) rfl rfl) trivial ?_
    refine t_up1 9 (by kernel_rfl) ?_
    refine up_mk rfl ?_
    refine s_sw H 0 rfl rfl rfl rfl rfl rfl rfl sz89 ?_
    clear H; intro _ H; simp only [jA, jB, jC, jD, jE, jF, jG, jH, jI, jJ, jK, Nat.reduceAdd] at H
    refine k_nil ?_
    refine t_on trivial ?_
    refine tqn 10 rfl rfl rfl (fun _ hS => r_as (v := .int _ _) rfl) trivial ?_
    refine t_done (by kernel_rfl) ?_
    refine k_met ?_
    exact ⟨_, rfl, rfl, rfl, rfl, H⟩
 clear H
 rintro f W ⟨p4, f1, f2, f4, f5, H⟩
 obtain ⟨f, rfl⟩ := live4 f1 f2 f4 f5
 clear f1 f2 f4 f5
 by_cases hk : K = -1
 ·refine c_norm ?_
  refine k_seq ?_
  refine k_sg ?_
  refine s_run rfl rfl (rmi rfl) ?_
  refine s_run rfl rfl (r_lssT rfl rfl (by omega)) ?_
  refine k_nc ?_
  refine k_t rfl ?_
  refine k_sg ?_
  refine s_run rfl rfl (r_bd (bd91 ) rfl) ?_
  refine s_sw H 1 rfl rfl rfl rfl rfl rfl rfl sz91 ?_
  clear H; intro _ H; simp only [jA, jB, jC, jD, jE, jF, jG, jH, jI, jJ, jK, Nat.reduceAdd] at H
  refine s_run rfl rfl (rai rfl) ?_
  refine k_nc ?_
  refine k_ret ?_
  refine c_ret ?_
  refine fx2r rfl (rv_a H 1 rfl rfl rfl ag91 sz91) (rv_t (v := .int _ _) rfl) ?_
  exact .inl ⟨hk, rfl, H.only⟩
 ·unfold nilTab at H
  refine c_norm ?_
  refine k_seq ?_
  refine k_sg ?_
  refine s_run rfl rfl (rmi rfl) ?_
  refine s_run rfl rfl (r_lssF rfl rfl (by omega)) ?_
  refine k_nc ?_
  refine k_f rfl ?_
  refine k_skip ?_
  refine c_norm ?_
  refine k_sg ?_
  refine s_run rfl rfl (r_la H 2 rfl rfl rfl ag55 sz55) ?_
  refine s_run rfl rfl (r_la H 0 rfl rfl rfl ag89 sz89) ?_
  refine s_run rfl rfl (rmi rfl) ?_
  refine s_run rfl rfl (r_fa0 rfl fo89_1) ?_
  refine s_run rfl rfl (r_lp H 0 (vs := [.int .i64 r0, .int .i64 r1, .int .i64 r2, .int .i64 r3, .int .i64 r4, .int .i64 r5, .int .i64 r6, .int .i64 r7]) rfl rfl rfl rfl ag87 sz87) ?_
  refine s_run rfl rfl (r_bd (bd91_0_1_2_3 _ _ _ _ _ _ _ _ _ _ _ _ _ _ _ _ _ _ _ _ _ _ _ _ _ _) rfl) ?_
  refine s_sw H 1 rfl rfl rfl rfl rfl rfl rfl sz91 ?_
  clear H; intro _ H; simp only [jA, jB, jC, jD, jE, jF, jG, jH, jI, jJ, jK, Nat.reduceAdd] at H
  refine s_run rfl rfl (rai rfl) ?_
  refine k_nc ?_
  refine k_ret ?_
  refine fx2r rfl (rv_a H 1 rfl rfl rfl ag91 sz91) (rv_t (v := .int _ _) rfl) ?_
  exact .inr ⟨hk, rfl, H.only⟩
end Go.Proofs.Ytmekhdclnhhhbaa
end
