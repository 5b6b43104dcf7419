/-
  RootsOpens: for every input the Go function answers true, and its arguments read afterwards as they read before. No condition.
-/
import Derived.Deep.Slices
import Derived.Deep.Fields
import Derived.ChangeSame
import Derived.Test.YtmekhdclnhhhbaaKRootsOpensj
set_option linter.unusedSimpArgs false
set_option linter.unusedVariables false
section
namespace Go.Proofs.Ytmekhdclnhhhbaa
open Go.RowKit
theorem ord_at : ∀ k, k < 16 → ([1, 2, 3, 4, 5, 6, 7, 9, 10, 11, 12, 13, 14, 15, 0, 8] : List Int)[k]? = some ((Nv.order.getD k 0 : Nat) : Int) ∧ Nv.order.getD k 0 < 16 := by decide
theorem slot_cells (E : Int) (R : List Int) (h : R.length = 8) : ∃ r0 r1 r2 r3 r4 r5 r6 r7, (.int .u64 E :: R.map (Value.int .i64) : List Value) = [.int .u64 E, .int .i64 r0, .int .i64 r1, .int .i64 r2, .int .i64 r3, .int .i64 r4, .int .i64 r5, .int .i64 r6, .int .i64 r7] := by
 obtain ⟨r0, r1, r2, r3, r4, r5, r6, r7, rfl⟩ := list8 h
 exact ⟨r0, r1, r2, r3, r4, r5, r6, r7, rfl⟩
theorem start_ok {w W : World} {L : List Ent} {F : List Nat} {s : RefS} {d : Nv.D} {m : Nat} (hr : RefOk w F s d m) (hF : ∀ i ∈ F, i < w.heap.size) (H : Heap w [] L W) : RefOk W (F ++ ids L) s d m ∧ ∀ j ∈ F ++ ids L, j < W.heap.size :=
 ⟨RefOk.at (F := []) (X := F) hr H, fun j hj => by
  rcases List.mem_append.1 hj with h | h
  ·exact Nat.lt_of_lt_of_le (hF j h) H.only.size
  ·exact H.idlt j h⟩
theorem rtWrite (s : RefS) (d : Nv.D) (m i : Nat) (E : Int) (R : List Int) (F : List Nat) (w : World) (hr : RefOk w F s d m) (hF : ∀ i ∈ F, i < w.heap.size) (hI : Nv.Inv d m) (hm : m ≤ 100000) (hi : i = 0 ∨ i = 1) (hl : R.length = 8) (hEp : U64s E) (hR : ∀ r ∈ R, I64 r) :
  Calls Try.prog 98 [.agg (refCells s d m).toArray, .int .i64 i, .agg (.int .u64 E :: R.map (Value.int .i64)).toArray].toArray w fun e w' => ∃ s', e = .returned (.tuple #[.agg (refCells s' (Nv.wr d m (64 + 64 * i) (encL E R)).1 m).toArray, .int .i64 (Nv.wr d m (64 + 64 * i) (encL E R)).2]) ∧ Heap w [] [] w' ∧ RefOk w' F s' (Nv.wr d m (64 + 64 * i) (encL E R)).1 m := by
 have H := Heap.nil w
 have hEn := fun w => rtEnc E R w hl hEp hR
 have hw := encL_len E R
 have hai : (64 : Int) + 64 * (i : Int) = ((64 + 64 * i : Nat) : Int) := by omega
 have hi1 : (i : Int) ≤ 1 := by omega
 have hab : 64 + 64 * i ≤ 128 := by omega
 obtain ⟨r0, r1, r2, r3, r4, r5, r6, r7, hsc⟩ := slot_cells E R hl
 rw [hsc] at hEn ⊢
 clear hsc
 generalize encL E R = ws at *
 refine k_in (N := 49) Try.func98 rfl rfl rfl ?_
 refine k_sg ?_
 refine s_box H rfl rfl ?_
 intro p3 _ H'; clear H; have H := H'; clear H'
 refine s_box H rfl rfl ?_
 intro p5 _ H'; clear H; have H := H'; clear H'
 refine s_al H rfl inf55 ?_
 intro p6 _ H'; clear H; have H := H'; clear H'
 refine s_run rfl rfl (rai rfl) ?_
 refine k_nc ?_
 refine k_sg ?_
 refine s_run rfl rfl (rmi rfl) ?_
 refine s_run rfl rfl (r_mul (c := 64 * (i : Int)) rfl rfl (wI (by omega))) ?_
 refine s_run rfl rfl (r_add (c := ((64 + 64 * i : Nat) : Int)) rfl rfl (by rw [hai]; exact wI (by omega))) ?_
 refine s_run rfl rfl (rai rfl) ?_
 refine k_nc ?_
 refine k_sg ?_
 refine s_run rfl rfl (r_la H 1 rfl rfl rfl ag89 sz89) ?_
 refine s_call rfl (hEn _) (ca116 rfl) ?_
 rintro e W1 ⟨rfl, H'⟩
 refine ⟨_, rfl, ?_⟩
 have H := H.same H'; clear H'
 refine s_al H rfl inf99 ?_
 intro p9 _ H'; clear H; have H := H'; clear H'
 refine s_sw H 0 rfl rfl rfl rfl (by rw [List.length_map]; exact hw) (allU ws) rfl sz99 ?_
 clear H; intro _ H; simp only [jA, jB, jC, jD, jE, jF, jG, jH, jI, jJ, jK, Nat.reduceAdd] at H
 refine k_nc ?_
 refine k_sg ?_
 refine s_run rfl rfl (rai rfl) ?_
 refine k_nc ?_
 refine k_sg ?_
 refine s_bsO (enc := (Value.int .i64)) (zs := [1, 2, 3, 4, 5, 6, 7, 9, 10, 11, 12, 13, 14, 15, 0, 8]) H rfl rfl rfl (by omega) (by kernel_rfl) Try.underlying42 inf3 ?_
 intro po _ H'; clear H; have H := H'; clear H'
 refine s_run rfl rfl (ras rfl) ?_
 refine k_nc ?_
 refine k_seq ?_
 refine k_sg ?_
 refine s_run rfl rfl (rai rfl) ?_
 refine k_nc ?_
 refine k_b ?_
 obtain ⟨po2, co, he, _, _, H2⟩ := own_vec H (by decide)
 injection he with he1 _ he2
 injection he1 with he1
 injection he1 with he1
 subst he1
 clear H
 have H := H2
 clear H2 he2
 generalize 64 + 64 * i = a at *
 have hI0 := fun k => hI.wrTo a ws k
 obtain ⟨hr0, hF0⟩ := start_ok hr hF H
 have e0 : F ++ ids [vec (Value.int .i64) po [1, 2, 3, 4, 5, 6, 7, 9, 10, 11, 12, 13, 14, 15, 0, 8] 3, blk p9 (ws.map (Value.int .u64)) 99, blk p6 nilDev 55, blk p5 [.int .u64 E, .int .i64 r0, .int .i64 r1, .int .i64 r2, .int .i64 r3, .int .i64 r4, .int .i64 r5, .int .i64 r6, .int .i64 r7] 89, blk p3 (refCells s d m) 55] = F ++ [po, p9, p6, p5, p3] := rfl
 have hr0 : RefOk _ (F ++ [po, p9, p6, p5, p3]) s d m := hr0
 have hF0 : ∀ j ∈ F ++ [po, p9, p6, p5, p3], j < _ := hF0
 clear e0
 refine k_loop (fun z f W => ∃ (k : Nat) (s : RefS), k ≤ 16 ∧ z = 16 - k ∧ (Nv.wrTo d m a ws k).2 = 0 ∧ RefOk W (F ++ [po, p9, p6, p5, p3]) s (Nv.wrTo d m a ws k).1 m ∧ (∀ j ∈ F ++ [po, p9, p6, p5, p3], j < W.heap.size) ∧ f 3 = ptr p3 ∧ f 6 = ptr p6 ∧ f 8 = .int .i64 a ∧ f 9 = ptr p9 ∧ f 11 = .slice (some ⟨po, 0, none⟩) 16 16 ∧ f 12 = .int .i64 k ∧ Heap w [] [vec (Value.int .i64) po [1, 2, 3, 4, 5, 6, 7, 9, 10, 11, 12, 13, 14, 15, 0, 8] 3, blk p9 (ws.map (Value.int .u64)) 99, blk p6 nilDev 55, blk p5 [.int .u64 E, .int .i64 r0, .int .i64 r1, .int .i64 r2, .int .i64 r3, .int .i64 r4, .int .i64 r5, .int .i64 r6, .int .i64 r7] 89, blk p3 (refCells s (Nv.wrTo d m a ws k).1 m) 55] W) 16 ⟨0, s, by omega, rfl, rfl, hr0, hF0, rfl, rfl, rfl, rfl, rfl, rfl, H⟩ ?_
 clear H hr0 hF0 hr
 rintro z f W ⟨k, s, hk, rfl, hc0, hr, hFW, f3, f6, f8, f9, f11, f12, H⟩
 obtain ⟨f, rfl⟩ := live6 f3 f6 f8 f9 f11 f12
 clear f3 f6 f8 f9 f11 f12
 have HB0 := H
 have hsub : ∀ j ∈ ids [vec (Value.int .i64) po [1, 2, 3, 4, 5, 6, 7, 9, 10, 11, 12, 13, 14, 15, 0, 8] 3, blk p9 (ws.map (Value.int .u64)) 99, blk p6 nilDev 55, blk p5 [.int .u64 E, .int .i64 r0, .int .i64 r1, .int .i64 r2, .int .i64 r3, .int .i64 r4, .int .i64 r5, .int .i64 r6, .int .i64 r7] 89, blk p3 (refCells s (Nv.wrTo d m a ws k).1 m) 55], j ∈ F ++ [po, p9, p6, p5, p3] := fun j hj => List.mem_append_right _ hj
 clear H
 have H := Heap.start HB0.ents
 by_cases hlt : k < 16
 ·obtain ⟨hok, hq⟩ := ord_at k hlt
  have hsu := Nv.wrTo_succ d m a ws k hc0
  generalize Nv.order.getD k 0 = q at *
  have hz := getU (ws := ws) (k := q) (by omega)
  have hSt := fun W hr hF => rStore s (Nv.wrTo d m a ws k).1 m ((a : Int) + (q : Int)) (ws.getD q 0) (F ++ [po, p9, p6, p5, p3]) W hr hF hm
  rw [← hsu] at hSt
  refine k_seq ?_
  refine k_sg ?_
  refine s_run rfl rfl (rmi rfl) ?_
  refine s_run rfl rfl (r_lssT rfl rfl (by omega)) ?_
  refine k_nc ?_
  refine k_t rfl ?_
  refine k_skip ?_
  refine c_norm ?_
  refine k_seq ?_
  refine k_b ?_
  refine k_seq ?_
  refine k_cut (fun f W => ∃ s : RefS, f 3 = ptr p3 ∧ f 6 = ptr p6 ∧ f 8 = .int .i64 a ∧ f 9 = ptr p9 ∧ f 10 = .int .i64 (Nv.wrTo d m a ws (k + 1)).2 ∧ f 11 = .slice (some ⟨po, 0, none⟩) 16 16 ∧ f 12 = .int .i64 k ∧ Heap w [] [vec (Value.int .i64) po [1, 2, 3, 4, 5, 6, 7, 9, 10, 11, 12, 13, 14, 15, 0, 8] 3, blk p9 (ws.map (Value.int .u64)) 99, blk p6 nilDev 55, blk p5 [.int .u64 E, .int .i64 r0, .int .i64 r1, .int .i64 r2, .int .i64 r3, .int .i64 r4, .int .i64 r5, .int .i64 r6, .int .i64 r7] 89, blk p3 (refCells s (Nv.wrTo d m a ws (k + 1)).1 m) 55] W ∧ RefOk W (F ++ [po, p9, p6, p5, p3]) s (Nv.wrTo d m a ws (k + 1)).1 m ∧ (∀ j ∈ F ++ [po, p9, p6, p5, p3], j < W.heap.size)) ?_ ?_
  ·refine k_trF mixed ?_; have H' := H.drew; clear H; have H := H'; clear H'
   refine tqn 1 rfl rfl rfl (fun _ hS => r_mv (v := .int _ _) rfl) trivial ?_
   refine tqn 2 rfl rfl rfl (fun _ hS => r_mv (v := .slice _ _ _) rfl) trivial ?_
   refine tqn 3 rfl rfl rfl (fun _ hS => r_mv (v := .int _ _) rfl) trivial ?_
   refine tqn 4 rfl rfl rfl (fun _ hS => r_ix1 rfl rfl rfl (by omega) Try.underlying42 sz3) trivial ?_
   refine tqn 7 rfl rfl rfl (fun _ hS => r_mv (v := .slice _ _ _) rfl) trivial ?_
   refine tqn 8 rfl rfl rfl (fun _ hS => r_mv (v := .int _ _) rfl) trivial ?_
   refine tqn 9 rfl rfl rfl (fun _ hS => r_ix1 rfl rfl rfl (by omega) Try.underlying42 sz3) trivial ?_
   refine t_up3 0 5 10 (by kernel_rfl) ?_ ?_ ?_
   ·refine up_mk rfl ?_
    refine s_run rfl rfl (r_la H 4 rfl rfl rfl ag55 sz55) ?_
    refine k_nil ?_
    refine t_on trivial ?_
    refine t_up2 5 10 (by kernel_rfl) ?_ ?_
    ·refine up_mk rfl ?_
     refine s_run rfl rfl (r_lv H 0 rfl rfl hok ag3) ?_
     refine k_nil ?_
     refine t_on trivial ?_
     refine tqn 6 rfl rfl rfl (fun _ hS => r_add rfl rfl (wI (by omega))) trivial ?_
     refine t_up1 10 (by kernel_rfl) ?_
     refine up_mk rfl ?_
     refine s_run rfl rfl (r_lv H 0 rfl rfl hok ag3) ?_
     refine k_nil ?_
     refine t_on trivial ?_
     refine tqn 11 rfl rfl rfl (fun _ hS => r_ia0 rfl rfl rfl (by omega) Try.underlying99 sz22) trivial ?_
     refine t_up1 12 (by kernel_rfl) ?_
     refine up_mk rfl ?_
     refine s_run rfl rfl (r_lo H 1 rfl rfl hz ag22) ?_
     refine k_nil ?_
     refine t_on trivial ?_
     refine t_up1 13 (by kernel_rfl) ?_
     refine up_mk rfl ?_
     refine s_call rfl (hSt _ (hr.later H.only hsub) (fun j hj => Nat.lt_of_lt_of_le (hFW j hj) H.only.size)) (ca71 rfl) ?_
     rintro e W1 ⟨s2, rfl, H', hr'⟩
     refine ⟨_, rfl, ?_⟩
     have H1 := H.more (A := []) H'; clear H; simp only [List.nil_append] at H1; have HB := H1; clear H1; have H := Heap.start HB.ents; have hF' : ∀ j ∈ F ++ [po, p9, p6, p5, p3], j < _ := fun j hj => Nat.lt_of_lt_of_le (hFW j hj) HB.only.size
     refine k_nil ?_
     refine t_on trivial ?_
     refine tqn 14 rfl rfl rfl (fun _ hS => r_mv (v := .tuple _) rfl) trivial ?_
     refine tqn 15 rfl rfl rfl (fun _ hS => r_ext (v := .agg _) rfl rfl) trivial ?_
     refine tqn 16 rfl rfl rfl (fun _ hS => r_ext (v := .int _ _) rfl rfl) trivial ?_
     refine t_up1 17 (by kernel_rfl) ?_
     refine up_mk rfl ?_
     refine s_sw H 4 rfl rfl rfl rfl rfl rfl rfl sz55 ?_
     clear H; intro _ H; simp only [jA, jB, jC, jD, jE, jF, jG, jH, jI, jJ, jK, Nat.reduceAdd] at H
     refine k_nil ?_
     refine t_on trivial ?_
     refine tqn 18 rfl rfl rfl (fun _ hS => r_as (v := .int _ _) rfl) trivial ?_
     refine t_done (by kernel_rfl) ?_
     refine k_met ?_
     exact ⟨s2, rfl, rfl, rfl, rfl, rfl, rfl, rfl, HB0.whole (HB.whole H), hr'.later H.only (fun j hj => List.mem_append_right _ hj), fun j hj => Nat.lt_of_lt_of_le (hF' j hj) H.only.size⟩
    ·refine up_mk rfl ?_
     refine s_run rfl rfl (r_lv H 0 rfl rfl hok ag3) ?_
     refine k_nil ?_
     refine t_on trivial ?_
     refine tqn 11 rfl rfl rfl (fun _ hS => r_ia0 rfl rfl rfl (by omega) Try.underlying99 sz22) trivial ?_
     refine t_up2 5 12 (by kernel_rfl) ?_ ?_
     ·refine up_mk rfl ?_
      refine s_run rfl rfl (r_lv H 0 rfl rfl hok ag3) ?_
      refine k_nil ?_
      refine t_on trivial ?_
      refine tqn 6 rfl rfl rfl (fun _ hS => r_add rfl rfl (wI (by omega))) trivial ?_
      refine t_up1 12 (by kernel_rfl) ?_
      refine up_mk rfl ?_
      refine s_run rfl rfl (r_lo H 1 rfl rfl hz ag22) ?_
      refine k_nil ?_
      refine t_on trivial ?_
      refine t_up1 13 (by kernel_rfl) ?_
      refine up_mk rfl ?_
      refine s_call rfl (hSt _ (hr.later H.only hsub) (fun j hj => Nat.lt_of_lt_of_le (hFW j hj) H.only.size)) (ca71 rfl) ?_
      rintro e W1 ⟨s2, rfl, H', hr'⟩
      refine ⟨_, rfl, ?_⟩
      have H1 := H.more (A := []) H'; clear H; simp only [List.nil_append] at H1; have HB := H1; clear H1; have H := Heap.start HB.ents; have hF' : ∀ j ∈ F ++ [po, p9, p6, p5, p3], j < _ := fun j hj => Nat.lt_of_lt_of_le (hFW j hj) HB.only.size
      refine k_nil ?_
      refine t_on trivial ?_
      refine tqn 14 rfl rfl rfl (fun _ hS => r_mv (v := .tuple _) rfl) trivial ?_
      refine tqn 15 rfl rfl rfl (fun _ hS => r_ext (v := .agg _) rfl rfl) trivial ?_
      refine tqn 16 rfl rfl rfl (fun _ hS => r_ext (v := .int _ _) rfl rfl) trivial ?_
      refine t_up1 17 (by kernel_rfl) ?_
      refine up_mk rfl ?_
      refine s_sw H 4 rfl rfl rfl rfl rfl rfl rfl sz55 ?_
      clear H; intro _ H; simp only [jA, jB, jC, jD, jE, jF, jG, jH, jI, jJ, jK, Nat.reduceAdd] at H
      refine k_nil ?_
      refine t_on trivial ?_
      refine tqn 18 rfl rfl rfl (fun _ hS => r_as (v := .int _ _) rfl) trivial ?_
      refine t_done (by kernel_rfl) ?_
      refine k_met ?_
      exact ⟨s2, rfl, rfl, rfl, rfl, rfl, rfl, rfl, HB0.whole (HB.whole H), hr'.later H.only (fun j hj => List.mem_append_right _ hj), fun j hj => Nat.lt_of_lt_of_le (hF' j hj) H.only.size⟩
     ·refine up_mk rfl ?_
      refine s_run rfl rfl (r_lo H 1 rfl rfl hz ag22) ?_
      refine k_nil ?_
      refine t_on trivial ?_
      refine t_up1 5 (by kernel_rfl) ?_
      refine up_mk rfl ?_
      refine s_run rfl rfl (r_lv H 0 rfl rfl hok ag3) ?_
      refine k_nil ?_
      refine t_on trivial ?_
      refine tqn 6 rfl rfl rfl (fun _ hS => r_add rfl rfl (wI (by omega))) trivial ?_
      refine t_up1 13 (by kernel_rfl) ?_
      refine up_mk rfl ?_
      refine s_call rfl (hSt _ (hr.later H.only hsub) (fun j hj => Nat.lt_of_lt_of_le (hFW j hj) H.only.size)) (ca71 rfl) ?_
      rintro e W1 ⟨s2, rfl, H', hr'⟩
      refine ⟨_, rfl, ?_⟩
      have H1 := H.more (A := []) H'; clear H; simp only [List.nil_append] at H1; have HB := H1; clear H1; have H := Heap.start HB.ents; have hF' : ∀ j ∈ F ++ [po, p9, p6, p5, p3], j < _ := fun j hj => Nat.lt_of_lt_of_le (hFW j hj) HB.only.size
      refine k_nil ?_
      refine t_on trivial ?_
      refine tqn 14 rfl rfl rfl (fun _ hS => r_mv (v := .tuple _) rfl) trivial ?_
      refine tqn 15 rfl rfl rfl (fun _ hS => r_ext (v := .agg _) rfl rfl) trivial ?_
      refine tqn 16 rfl rfl rfl (fun _ hS => r_ext (v := .int _ _) rfl rfl) trivial ?_
      refine t_up1 17 (by kernel_rfl) ?_
      refine up_mk rfl ?_
      refine s_sw H 4 rfl rfl rfl rfl rfl rfl rfl sz55 ?_
      clear H; intro _ H; simp only [jA, jB, jC, jD, jE, jF, jG, jH, jI, jJ, jK, Nat.reduceAdd] at H
      refine k_nil ?_
      refine t_on trivial ?_
      refine tqn 18 rfl rfl rfl (fun _ hS => r_as (v := .int _ _) rfl) trivial ?_
      refine t_done (by kernel_rfl) ?_
      refine k_met ?_
      exact ⟨s2, rfl, rfl, rfl, rfl, rfl, rfl, rfl, HB0.whole (HB.whole H), hr'.later H.only (fun j hj => List.mem_append_right _ hj), fun j hj => Nat.lt_of_lt_of_le (hF' j hj) H.only.size⟩
   ·refine up_mk rfl ?_
    refine s_run rfl rfl (r_lv H 0 rfl rfl hok ag3) ?_
    refine k_nil ?_
    refine t_on trivial ?_
    refine tqn 6 rfl rfl rfl (fun _ hS => r_add rfl rfl (wI (by omega))) trivial ?_
    refine t_up2 0 10 (by kernel_rfl) ?_ ?_
    ·refine up_mk rfl ?_
     refine s_run rfl rfl (r_la H 4 rfl rfl rfl ag55 sz55) ?_
     refine k_nil ?_
     refine t_on trivial ?_
     refine t_up1 10 (by kernel_rfl) ?_
     refine up_mk rfl ?_
     refine s_run rfl rfl (r_lv H 0 rfl rfl hok ag3) ?_
     refine k_nil ?_
     refine t_on trivial ?_
     refine tqn 11 rfl rfl rfl (fun _ hS => r_ia0 rfl rfl rfl (by omega) Try.underlying99 sz22) trivial ?_
     refine t_up1 12 (by kernel_rfl) ?_
     refine up_mk rfl ?_
     refine s_run rfl rfl (r_lo H 1 rfl rfl hz ag22) ?_
     refine k_nil ?_
     refine t_on trivial ?_
     refine t_up1 13 (by kernel_rfl) ?_
     refine up_mk rfl ?_
     refine s_call rfl (hSt _ (hr.later H.only hsub) (fun j hj => Nat.lt_of_lt_of_le (hFW j hj) H.only.size)) (ca71 rfl) ?_
     rintro e W1 ⟨s2, rfl, H', hr'⟩
     refine ⟨_, rfl, ?_⟩
     have H1 := H.more (A := []) H'; clear H; simp only [List.nil_append] at H1; have HB := H1; clear H1; have H := Heap.start HB.ents; have hF' : ∀ j ∈ F ++ [po, p9, p6, p5, p3], j < _ := fun j hj => Nat.lt_of_lt_of_le (hFW j hj) HB.only.size
     refine k_nil ?_
     refine t_on trivial ?_
     refine tqn 14 rfl rfl rfl (fun _ hS => r_mv (v := .tuple _) rfl) trivial ?_
     refine tqn 15 rfl rfl rfl (fun _ hS => r_ext (v := .agg _) rfl rfl) trivial ?_
     refine tqn 16 rfl rfl rfl (fun _ hS => r_ext (v := .int _ _) rfl rfl) trivial ?_
     refine t_up1 17 (by kernel_rfl) ?_
     refine up_mk rfl ?_
     refine s_sw H 4 rfl rfl rfl rfl rfl rfl rfl sz55 ?_
     clear H; intro _ H; simp only [jA, jB, jC, jD, jE, jF, jG, jH, jI, jJ, jK, Nat.reduceAdd] at H
     refine k_nil ?_
     refine t_on trivial ?_
     refine tqn 18 rfl rfl rfl (fun _ hS => r_as (v := .int _ _) rfl) trivial ?_
     refine t_done (by kernel_rfl) ?_
     refine k_met ?_
     exact ⟨s2, rfl, rfl, rfl, rfl, rfl, rfl, rfl, HB0.whole (HB.whole H), hr'.later H.only (fun j hj => List.mem_append_right _ hj), fun j hj => Nat.lt_of_lt_of_le (hF' j hj) H.only.size⟩
    ·refine up_mk rfl ?_
     refine s_run rfl rfl (r_lv H 0 rfl rfl hok ag3) ?_
     refine k_nil ?_
     refine t_on trivial ?_
     refine tqn 11 rfl rfl rfl (fun _ hS => r_ia0 rfl rfl rfl (by omega) Try.underlying99 sz22) trivial ?_
     refine t_up2 0 12 (by kernel_rfl) ?_ ?_
     ·refine up_mk rfl ?_
      refine s_run rfl rfl (r_la H 4 rfl rfl rfl ag55 sz55) ?_
      refine k_nil ?_
      refine t_on trivial ?_
      refine t_up1 12 (by kernel_rfl) ?_
      refine up_mk rfl ?_
      refine s_run rfl rfl (r_lo H 1 rfl rfl hz ag22) ?_
      refine k_nil ?_
      refine t_on trivial ?_
      refine t_up1 13 (by kernel_rfl) ?_
      refine up_mk rfl ?_
      refine s_call rfl (hSt _ (hr.later H.only hsub) (fun j hj => Nat.lt_of_lt_of_le (hFW j hj) H.only.size)) (ca71 rfl) ?_
      rintro e W1 ⟨s2, rfl, H', hr'⟩
      refine ⟨_, rfl, ?_⟩
      have H1 := H.more (A := []) H'; clear H; simp only [List.nil_append] at H1; have HB := H1; clear H1; have H := Heap.start HB.ents; have hF' : ∀ j ∈ F ++ [po, p9, p6, p5, p3], j < _ := fun j hj => Nat.lt_of_lt_of_le (hFW j hj) HB.only.size
      refine k_nil ?_
      refine t_on trivial ?_
      refine tqn 14 rfl rfl rfl (fun _ hS => r_mv (v := .tuple _) rfl) trivial ?_
      refine tqn 15 rfl rfl rfl (fun _ hS => r_ext (v := .agg _) rfl rfl) trivial ?_
      refine tqn 16 rfl rfl rfl (fun _ hS => r_ext (v := .int _ _) rfl rfl) trivial ?_
      refine t_up1 17 (by kernel_rfl) ?_
      refine up_mk rfl ?_
      refine s_sw H 4 rfl rfl rfl rfl rfl rfl rfl sz55 ?_
      clear H; intro _ H; simp only [jA, jB, jC, jD, jE, jF, jG, jH, jI, jJ, jK, Nat.reduceAdd] at H
      refine k_nil ?_
      refine t_on trivial ?_
      refine tqn 18 rfl rfl rfl (fun _ hS => r_as (v := .int _ _) rfl) trivial ?_
      refine t_done (by kernel_rfl) ?_
      refine k_met ?_
      exact ⟨s2, rfl, rfl, rfl, rfl, rfl, rfl, rfl, HB0.whole (HB.whole H), hr'.later H.only (fun j hj => List.mem_append_right _ hj), fun j hj => Nat.lt_of_lt_of_le (hF' j hj) H.only.size⟩
     ·refine up_mk rfl ?_
      refine s_run rfl rfl (r_lo H 1 rfl rfl hz ag22) ?_
      refine k_nil ?_
      refine t_on trivial ?_
      refine t_up1 0 (by kernel_rfl) ?_
      refine up_mk rfl ?_
      refine s_run rfl rfl (r_la H 4 rfl rfl rfl ag55 sz55) ?_
      refine k_nil ?_
      refine t_on trivial ?_
      refine t_up1 13 (by kernel_rfl) ?_
      refine up_mk rfl ?_
      refine s_call rfl (hSt _ (hr.later H.only hsub) (fun j hj => Nat.lt_of_lt_of_le (hFW j hj) H.only.size)) (ca71 rfl) ?_
      rintro e W1 ⟨s2, rfl, H', hr'⟩
      refine ⟨_, rfl, ?_⟩
      have H1 := H.more (A := []) H'; clear H; simp only [List.nil_append] at H1; have HB := H1; clear H1; have H := Heap.start HB.ents; have hF' : ∀ j ∈ F ++ [po, p9, p6, p5, p3], j < _ := fun j hj => Nat.lt_of_lt_of_le (hFW j hj) HB.only.size
      refine k_nil ?_
      refine t_on trivial ?_
      refine tqn 14 rfl rfl rfl (fun _ hS => r_mv (v := .tuple _) rfl) trivial ?_
      refine tqn 15 rfl rfl rfl (fun _ hS => r_ext (v := .agg _) rfl rfl) trivial ?_
      refine tqn 16 rfl rfl rfl (fun _ hS => r_ext (v := .int _ _) rfl rfl) trivial ?_
      refine t_up1 17 (by kernel_rfl) ?_
      refine up_mk rfl ?_
      refine s_sw H 4 rfl rfl rfl rfl rfl rfl rfl sz55 ?_
      clear H; intro _ H; simp only [jA, jB, jC, jD, jE, jF, jG, jH, jI, jJ, jK, Nat.reduceAdd] at H
      refine k_nil ?_
      refine t_on trivial ?_
      refine tqn 18 rfl rfl rfl (fun _ hS => r_as (v := .int _ _) rfl) trivial ?_
      refine t_done (by kernel_rfl) ?_
      refine k_met ?_
      exact ⟨s2, rfl, rfl, rfl, rfl, rfl, rfl, rfl, HB0.whole (HB.whole H), hr'.later H.only (fun j hj => List.mem_append_right _ hj), fun j hj => Nat.lt_of_lt_of_le (hF' j hj) H.only.size⟩
   ·refine up_mk rfl ?_
    refine s_run rfl rfl (r_lv H 0 rfl rfl hok ag3) ?_
    refine k_nil ?_
    refine t_on trivial ?_
    refine tqn 11 rfl rfl rfl (fun _ hS => r_ia0 rfl rfl rfl (by omega) Try.underlying99 sz22) trivial ?_
    refine t_up3 0 5 12 (by kernel_rfl) ?_ ?_ ?_
    ·refine up_mk rfl ?_
     refine s_run rfl rfl (r_la H 4 rfl rfl rfl ag55 sz55) ?_
     refine k_nil ?_
     refine t_on trivial ?_
     refine t_up2 5 12 (by kernel_rfl) ?_ ?_
     ·refine up_mk rfl ?_
      refine s_run rfl rfl (r_lv H 0 rfl rfl hok ag3) ?_
      refine k_nil ?_
      refine t_on trivial ?_
      refine tqn 6 rfl rfl rfl (fun _ hS => r_add rfl rfl (wI (by omega))) trivial ?_
      refine t_up1 12 (by kernel_rfl) ?_
      refine up_mk rfl ?_
      refine s_run rfl rfl (r_lo H 1 rfl rfl hz ag22) ?_
      refine k_nil ?_
      refine t_on trivial ?_
      refine t_up1 13 (by kernel_rfl) ?_
      refine up_mk rfl ?_
      refine s_call rfl (hSt _ (hr.later H.only hsub) (fun j hj => Nat.lt_of_lt_of_le (hFW j hj) H.only.size)) (ca71 rfl) ?_
      rintro e W1 ⟨s2, rfl, H', hr'⟩
      refine ⟨_, rfl, ?_⟩
      have H1 := H.more (A := []) H'; clear H; simp only [List.nil_append] at H1; have HB := H1; clear H1; have H := Heap.start HB.ents; have hF' : ∀ j ∈ F ++ [po, p9, p6, p5, p3], j < _ := fun j hj => Nat.lt_of_lt_of_le (hFW j hj) HB.only.size
      refine k_nil ?_
      refine t_on trivial ?_
      refine tqn 14 rfl rfl rfl (fun _ hS => r_mv (v := .tuple _) rfl) trivial ?_
      refine tqn 15 rfl rfl rfl (fun _ hS => r_ext (v := .agg _) rfl rfl) trivial ?_
      refine tqn 16 rfl rfl rfl (fun _ hS => r_ext (v := .int _ _) rfl rfl) trivial ?_
      refine t_up1 17 (by kernel_rfl) ?_
      refine up_mk rfl ?_
      refine s_sw H 4 rfl rfl rfl rfl rfl rfl rfl sz55 ?_
      clear H; intro _ H; simp only [jA, jB, jC, jD, jE, jF, jG, jH, jI, jJ, jK, Nat.reduceAdd] at H
      refine k_nil ?_
      refine t_on trivial ?_
      refine tqn 18 rfl rfl rfl (fun _ hS => r_as (v := .int _ _) rfl) trivial ?_
      refine t_done (by kernel_rfl) ?_
      refine k_met ?_
      exact ⟨s2, rfl, rfl, rfl, rfl, rfl, rfl, rfl, HB0.whole (HB.whole H), hr'.later H.only (fun j hj => List.mem_append_right _ hj), fun j hj => Nat.lt_of_lt_of_le (hF' j hj) H.only.size⟩
     ·refine up_mk rfl ?_
      refine s_run rfl rfl (r_lo H 1 rfl rfl hz ag22) ?_
      refine k_nil ?_
      refine t_on trivial ?_
      refine t_up1 5 (by kernel_rfl) ?_
      refine up_mk rfl ?_
      refine s_run rfl rfl (r_lv H 0 rfl rfl hok ag3) ?_
      refine k_nil ?_
      refine t_on trivial ?_
      refine tqn 6 rfl rfl rfl (fun _ hS => r_add rfl rfl (wI (by omega))) trivial ?_
      refine t_up1 13 (by kernel_rfl) ?_
      refine up_mk rfl ?_
      refine s_call rfl (hSt _ (hr.later H.only hsub) (fun j hj => Nat.lt_of_lt_of_le (hFW j hj) H.only.size)) (ca71 rfl) ?_
      rintro e W1 ⟨s2, rfl, H', hr'⟩
      refine ⟨_, rfl, ?_⟩
      have H1 := H.more (A := []) H'; clear H; simp only [List.nil_append] at H1; have HB := H1; clear H1; have H := Heap.start HB.ents; have hF' : ∀ j ∈ F ++ [po, p9, p6, p5, p3], j < _ := fun j hj => Nat.lt_of_lt_of_le (hFW j hj) HB.only.size
      refine k_nil ?_
      refine t_on trivial ?_
      refine tqn 14 rfl rfl rfl (fun _ hS => r_mv (v := .tuple _) rfl) trivial ?_
      refine tqn 15 rfl rfl rfl (fun _ hS => r_ext (v := .agg _) rfl rfl) trivial ?_
      refine tqn 16 rfl rfl rfl (fun _ hS => r_ext (v := .int _ _) rfl rfl) trivial ?_
      refine t_up1 17 (by kernel_rfl) ?_
      refine up_mk rfl ?_
      refine s_sw H 4 rfl rfl rfl rfl rfl rfl rfl sz55 ?_
      clear H; intro _ H; simp only [jA, jB, jC, jD, jE, jF, jG, jH, jI, jJ, jK, Nat.reduceAdd] at H
      refine k_nil ?_
      refine t_on trivial ?_
      refine tqn 18 rfl rfl rfl (fun _ hS => r_as (v := .int _ _) rfl) trivial ?_
      refine t_done (by kernel_rfl) ?_
      refine k_met ?_
      exact ⟨s2, rfl, rfl, rfl, rfl, rfl, rfl, rfl, HB0.whole (HB.whole H), hr'.later H.only (fun j hj => List.mem_append_right _ hj), fun j hj => Nat.lt_of_lt_of_le (hF' j hj) H.only.size⟩
    ·refine up_mk rfl ?_
     refine s_run rfl rfl (r_lv H 0 rfl rfl hok ag3) ?_
     refine k_nil ?_
     refine t_on trivial ?_
     refine tqn 6 rfl rfl rfl (fun _ hS => r_add rfl rfl (wI (by omega))) trivial ?_
     refine t_up2 0 12 (by kernel_rfl) ?_ ?_
     ·refine up_mk rfl ?_
      refine s_run rfl rfl (r_la H 4 rfl rfl rfl ag55 sz55) ?_
      refine k_nil ?_
      refine t_on trivial ?_
      refine t_up1 12 (by kernel_rfl) ?_
      refine up_mk rfl ?_
      refine s_run rfl rfl (r_lo H 1 rfl rfl hz ag22) ?_
      refine k_nil ?_
      refine t_on trivial ?_
      refine t_up1 13 (by kernel_rfl) ?_
      refine up_mk rfl ?_
      refine s_call rfl (hSt _ (hr.later H.only hsub) (fun j hj => Nat.lt_of_lt_of_le (hFW j hj) H.only.size)) (ca71 rfl) ?_
      rintro e W1 ⟨s2, rfl, H', hr'⟩
      refine ⟨_, rfl, ?_⟩
      have H1 := H.more (A := []) H'; clear H; simp only [List.nil_append] at H1; have HB := H1; clear H1; have H := Heap.start HB.ents; have hF' : ∀ j ∈ F ++ [po, p9, p6, p5, p3], j < _ := fun j hj => Nat.lt_of_lt_of_le (hFW j hj) HB.only.size
      refine k_nil ?_
      refine t_on trivial ?_
      refine tqn 14 rfl rfl rfl (fun _ hS => r_mv (v := .tuple _) rfl) trivial ?_
      refine tqn 15 rfl rfl rfl (fun _ hS => r_ext (v := .agg _) rfl rfl) trivial ?_
      refine tqn 16 rfl rfl rfl (fun _ hS => r_ext (v := .int _ _) rfl rfl) trivial ?_
      refine t_up1 17 (by kernel_rfl) ?_
      refine up_mk rfl ?_
      refine s_sw H 4 rfl rfl rfl rfl rfl rfl rfl sz55 ?_
      clear H; intro _ H; simp only [jA, jB, jC, jD, jE, jF, jG, jH, jI, jJ, jK, Nat.reduceAdd] at H
      refine k_nil ?_
      refine t_on trivial ?_
      refine tqn 18 rfl rfl rfl (fun _ hS => r_as (v := .int _ _) rfl) trivial ?_
      refine t_done (by kernel_rfl) ?_
      refine k_met ?_
      exact ⟨s2, rfl, rfl, rfl, rfl, rfl, rfl, rfl, HB0.whole (HB.whole H), hr'.later H.only (fun j hj => List.mem_append_right _ hj), fun j hj => Nat.lt_of_lt_of_le (hF' j hj) H.only.size⟩
     ·refine up_mk rfl ?_
      refine s_run rfl rfl (r_lo H 1 rfl rfl hz ag22) ?_
      refine k_nil ?_
      refine t_on trivial ?_
      refine t_up1 0 (by kernel_rfl) ?_
      refine up_mk rfl ?_
      refine s_run rfl rfl (r_la H 4 rfl rfl rfl ag55 sz55) ?_
      refine k_nil ?_
      refine t_on trivial ?_
      refine t_up1 13 (by kernel_rfl) ?_
      refine up_mk rfl ?_
      refine s_call rfl (hSt _ (hr.later H.only hsub) (fun j hj => Nat.lt_of_lt_of_le (hFW j hj) H.only.size)) (ca71 rfl) ?_
      rintro e W1 ⟨s2, rfl, H', hr'⟩
      refine ⟨_, rfl, ?_⟩
      have H1 := H.more (A := []) H'; clear H; simp only [List.nil_append] at H1; have HB := H1; clear H1; have H := Heap.start HB.ents; have hF' : ∀ j ∈ F ++ [po, p9, p6, p5, p3], j < _ := fun j hj => Nat.lt_of_lt_of_le (hFW j hj) HB.only.size
      refine k_nil ?_
      refine t_on trivial ?_
      refine tqn 14 rfl rfl rfl (fun _ hS => r_mv (v := .tuple _) rfl) trivial ?_
      refine tqn 15 rfl rfl rfl (fun _ hS => r_ext (v := .agg _) rfl rfl) trivial ?_
      refine tqn 16 rfl rfl rfl (fun _ hS => r_ext (v := .int _ _) rfl rfl) trivial ?_
      refine t_up1 17 (by kernel_rfl) ?_
      refine up_mk rfl ?_
      refine s_sw H 4 rfl rfl rfl rfl rfl rfl rfl sz55 ?_
      clear H; intro _ H; simp only [jA, jB, jC, jD, jE, jF, jG, jH, jI, jJ, jK, Nat.reduceAdd] at H
      refine k_nil ?_
      refine t_on trivial ?_
      refine tqn 18 rfl rfl rfl (fun _ hS => r_as (v := .int _ _) rfl) trivial ?_
      refine t_done (by kernel_rfl) ?_
      refine k_met ?_
      exact ⟨s2, rfl, rfl, rfl, rfl, rfl, rfl, rfl, HB0.whole (HB.whole H), hr'.later H.only (fun j hj => List.mem_append_right _ hj), fun j hj => Nat.lt_of_lt_of_le (hF' j hj) H.only.size⟩
    ·refine up_mk rfl ?_
     refine s_run rfl rfl (r_lo H 1 rfl rfl hz ag22) ?_
     refine k_nil ?_
     refine t_on trivial ?_
     refine t_up2 0 5 (by kernel_rfl) ?_ ?_
     ·refine up_mk rfl ?_
      refine s_run rfl rfl (r_la H 4 rfl rfl rfl ag55 sz55) ?_
      refine k_nil ?_
      refine t_on trivial ?_
      refine t_up1 5 (by kernel_rfl) ?_
      refine up_mk rfl ?_
      refine s_run rfl rfl (r_lv H 0 rfl rfl hok ag3) ?_
      refine k_nil ?_
      refine t_on trivial ?_
      refine tqn 6 rfl rfl rfl (fun _ hS => r_add rfl rfl (wI (by omega))) trivial ?_
      refine t_up1 13 (by kernel_rfl) ?_
      refine up_mk rfl ?_
      refine s_call rfl (hSt _ (hr.later H.only hsub) (fun j hj => Nat.lt_of_lt_of_le (hFW j hj) H.only.size)) (ca71 rfl) ?_
      rintro e W1 ⟨s2, rfl, H', hr'⟩
      refine ⟨_, rfl, ?_⟩
      have H1 := H.more (A := []) H'; clear H; simp only [List.nil_append] at H1; have HB := H1; clear H1; have H := Heap.start HB.ents; have hF' : ∀ j ∈ F ++ [po, p9, p6, p5, p3], j < _ := fun j hj => Nat.lt_of_lt_of_le (hFW j hj) HB.only.size
      refine k_nil ?_
      refine t_on trivial ?_
      refine tqn 14 rfl rfl rfl (fun _ hS => r_mv (v := .tuple _) rfl) trivial ?_
      refine tqn 15 rfl rfl rfl (fun _ hS => r_ext (v := .agg _) rfl rfl) trivial ?_
      refine tqn 16 rfl rfl rfl (fun _ hS => r_ext (v := .int _ _) rfl rfl) trivial ?_
      refine t_up1 17 (by kernel_rfl) ?_
      refine up_mk rfl ?_
      refine s_sw H 4 rfl rfl rfl rfl rfl rfl rfl sz55 ?_
      clear H; intro _ H; simp only [jA, jB, jC, jD, jE, jF, jG, jH, jI, jJ, jK, Nat.reduceAdd] at H
      refine k_nil ?_
      refine t_on trivial ?_
      refine tqn 18 rfl rfl rfl (fun _ hS => r_as (v := .int _ _) rfl) trivial ?_
      refine t_done (by kernel_rfl) ?_
      refine k_met ?_
      exact ⟨s2, rfl, rfl, rfl, rfl, rfl, rfl, rfl, HB0.whole (HB.whole H), hr'.later H.only (fun j hj => List.mem_append_right _ hj), fun j hj => Nat.lt_of_lt_of_le (hF' j hj) H.only.size⟩
     ·refine up_mk rfl ?_
      refine s_run rfl rfl (r_lv H 0 rfl rfl hok ag3) ?_
      refine k_nil ?_
      refine t_on trivial ?_
      refine tqn 6 rfl rfl rfl (fun _ hS => r_add rfl rfl (wI (by omega))) trivial ?_
      refine t_up1 0 (by kernel_rfl) ?_
      refine up_mk rfl ?_
      refine s_run rfl rfl (r_la H 4 rfl rfl rfl ag55 sz55) ?_
      refine k_nil ?_
      refine t_on trivial ?_
      refine t_up1 13 (by kernel_rfl) ?_
      refine up_mk rfl ?_
      refine s_call rfl (hSt _ (hr.later H.only hsub) (fun j hj => Nat.lt_of_lt_of_le (hFW j hj) H.only.size)) (ca71 rfl) ?_
      rintro e W1 ⟨s2, rfl, H', hr'⟩
      refine ⟨_, rfl, ?_⟩
      have H1 := H.more (A := []) H'; clear H; simp only [List.nil_append] at H1; have HB := H1; clear H1; have H := Heap.start HB.ents; have hF' : ∀ j ∈ F ++ [po, p9, p6, p5, p3], j < _ := fun j hj => Nat.lt_of_lt_of_le (hFW j hj) HB.only.size
      refine k_nil ?_
      refine t_on trivial ?_
      refine tqn 14 rfl rfl rfl (fun _ hS => r_mv (v := .tuple _) rfl) trivial ?_
      refine tqn 15 rfl rfl rfl (fun _ hS => r_ext (v := .agg _) rfl rfl) trivial ?_
      refine tqn 16 rfl rfl rfl (fun _ hS => r_ext (v := .int _ _) rfl rfl) trivial ?_
      refine t_up1 17 (by kernel_rfl) ?_
      refine up_mk rfl ?_
      refine s_sw H 4 rfl rfl rfl rfl rfl rfl rfl sz55 ?_
      clear H; intro _ H; simp only [jA, jB, jC, jD, jE, jF, jG, jH, jI, jJ, jK, Nat.reduceAdd] at H
      refine k_nil ?_
      refine t_on trivial ?_
      refine tqn 18 rfl rfl rfl (fun _ hS => r_as (v := .int _ _) rfl) trivial ?_
      refine t_done (by kernel_rfl) ?_
      refine k_met ?_
      exact ⟨s2, rfl, rfl, rfl, rfl, rfl, rfl, rfl, HB0.whole (HB.whole H), hr'.later H.only (fun j hj => List.mem_append_right _ hj), fun j hj => Nat.lt_of_lt_of_le (hF' j hj) H.only.size⟩
  clear H hr hFW HB0 hsub
  rintro f W ⟨s, f3, f6, f8, f9, f10, f11, f12, H, hr, hFW⟩
  obtain ⟨f, rfl⟩ := lv7 f3 f6 f8 f9 f10 f11 f12
  clear f3 f6 f8 f9 f10 f11 f12
  by_cases hcode : (Nv.wrTo d m a ws (k + 1)).2 = 0
  ·refine c_norm ?_
   refine k_sg ?_
   refine s_run rfl rfl (rmi rfl) ?_
   refine s_run rfl rfl (r_neqF rfl rfl (by omega)) ?_
   refine k_nc ?_
   refine k_f rfl ?_
   refine k_skip ?_
   refine b_norm ?_
   refine c_norm ?_
   refine k_rg ?_
   refine s_run rfl rfl (rmi rfl) ?_
   refine s_run rfl rfl (r_add rfl rfl (wI (by omega))) ?_
   refine s_run rfl rfl (rai rfl) ?_
   refine k_nil ?_
   refine c_round ?_
   refine ⟨_, _, ?_, rfl, k + 1, s, by omega, rfl, hcode, hr, hFW, rfl, rfl, rfl, rfl, rfl, rfl, H⟩
   omega
  ·rw [Nv.wr_stuck d m a ws (k + 1) (by omega) hcode]
   have HB := H
   clear H
   have H := Heap.start HB.ents
   refine c_norm ?_
   refine k_sg ?_
   refine s_run rfl rfl (rmi rfl) ?_
   refine s_run rfl rfl (r_neqT rfl rfl (by omega)) ?_
   refine k_nc ?_
   refine k_t rfl ?_
   refine k_sg ?_
   refine s_run rfl rfl (r_la H 4 rfl rfl rfl ag55 sz55) ?_
   refine s_run rfl rfl (rmi rfl) ?_
   refine s_sw H 2 rfl rfl rfl rfl rfl rfl rfl sz55 ?_
   clear H; intro _ H; simp only [jA, jB, jC, jD, jE, jF, jG, jH, jI, jJ, jK, Nat.reduceAdd] at H
   refine s_run rfl rfl (rai rfl) ?_
   refine k_nc ?_
   refine k_ret ?_
   refine b_ret ?_
   refine c_ret ?_
   refine c_ret ?_
   refine b_ret ?_
   refine c_ret ?_
   refine fx2r rfl (rv_a H 2 rfl rfl rfl ag55 sz55) (rv_t (v := .int _ _) rfl) ?_
   exact ⟨s, rfl, (HB.whole H).clear, (hr.later H.only (fun j hj => List.mem_append_right _ hj)).news (fun j hj => .inl (List.mem_append_left _ hj))⟩
 ·obtain rfl : k = 16 := by omega
  rw [Nv.wr_end d m a ws hc0]
  have hP := fun W hr hF => rPersist s (Nv.wrTo d m a ws 16).1 m a 16 (F ++ [po, p9, p6, p5, p3]) W hr hF hm
  refine k_seq ?_
  refine k_sg ?_
  refine s_run rfl rfl (rmi rfl) ?_
  refine s_run rfl rfl (r_lssF rfl rfl (by omega)) ?_
  refine k_nc ?_
  refine k_f rfl ?_
  refine k_exit ?_
  refine c_exit ?_
  refine c_exit ?_
  refine b_hit ?_
  refine c_norm ?_
  refine k_sg ?_
  refine s_run rfl rfl (r_la H 4 rfl rfl rfl ag55 sz55) ?_
  refine s_run rfl rfl (rmi rfl) ?_
  refine s_call rfl (hP _ (hr.later H.only hsub) (fun j hj => Nat.lt_of_lt_of_le (hFW j hj) H.only.size)) (ca75 rfl) ?_
  rintro e W1 ⟨s2, rfl, H', hr'⟩
  refine ⟨_, rfl, ?_⟩
  have H1 := H.more (A := []) H'; clear H; simp only [List.nil_append] at H1; have HB := H1; clear H1; have H := Heap.start HB.ents
  refine s_run rfl rfl (r_ext (v := .agg _) rfl rfl) ?_
  refine s_run rfl rfl (r_ext (v := .int _ _) rfl rfl) ?_
  refine s_sw H 2 rfl rfl rfl rfl rfl rfl rfl sz55 ?_
  clear H; intro _ H; simp only [jA, jB, jC, jD, jE, jF, jG, jH, jI, jJ, jK, Nat.reduceAdd] at H
  refine s_run rfl rfl (rai rfl) ?_
  refine k_nc ?_
  refine k_ret ?_
  refine fx2r rfl (rv_a H 2 rfl rfl rfl ag55 sz55) (rv_t (v := .int _ _) rfl) ?_
  exact ⟨s2, rfl, (HB0.whole (HB.whole H)).clear, (hr'.later H.only (fun j hj => List.mem_append_right _ hj)).news (fun j hj => .inl (List.mem_append_left _ hj))⟩
end Go.Proofs.Ytmekhdclnhhhbaa
end

section
namespace Go.Proofs.Ytmekhdclnhhhbaa
open Go.RowKit
theorem refTab_get {s : RefS} {d : Nv.D} {m : Nat} {E k : Int} {R V : List Int} (hR : R.length = 8) (i : Nat) (hi : i < V.length) : (refTab s d m E R k V)[18 + i]? = some (.int .i64 (V.getD i 0)) := by
 unfold refTab
 rw [List.getElem?_append_right (by show 8 ≤ 18 + i; omega)]
 show (_ :: _)[18 + i - 8]? = _
 rw [show 18 + i - 8 = (9 + i) + 1 by omega, List.getElem?_cons_succ, List.getElem?_append_right (by rw [List.length_map]; omega), List.length_map, hR, show 9 + i - 8 = i + 1 by omega, List.getElem?_cons_succ, List.getElem?_map, List.getElem?_eq_getElem hi, List.getD_eq_getElem?_getD, List.getElem?_eq_getElem hi]
 rfl
end Go.Proofs.Ytmekhdclnhhhbaa
end

section
namespace Go.Proofs.Ytmekhdclnhhhbaa
open Go.RowKit
end Go.Proofs.Ytmekhdclnhhhbaa
end

section
namespace Go.Proofs.Ytmekhdclnhhhbaa
open Nv
theorem getsA_map (l : List Int) (a : Nat) : ∀ k, getsA l a k = (List.range k).map fun (i : Nat) => Nv.get l ((a : Int) + (i : Int))
 | 0 => rfl
 | k + 1 => by rw [List.range_succ, List.map_append, ← getsA_map l a k]; rfl
theorem getsA_is (l ws : List Int) (a : Nat) (ha : a + 16 ≤ l.length) (hw : ws.length = 16) (h : ∀ i, i < 16 → l.getD (a + i) 0 = ws.getD i 0) : getsA l a 16 = ws := by
 rw [getsA_map]
 apply List.ext_getElem (by simp [hw])
 intro i h1 h2
 rw [List.getElem_map, List.getElem_range]
 have hi : i < 16 := by simpa using h1
 unfold Nv.get
 rw [if_pos (by omega), show ((a : Int) + (i : Int)).toNat = a + i by omega, h i hi]
 simp [List.getD, List.getElem?_eq_getElem h2]
theorem getsA_getD (l : List Int) (a i : Nat) (ha : a + 16 ≤ l.length) (hi : i < 16) : (getsA l a 16).getD i 0 = l.getD (a + i) 0 := by
 rw [getsA_map]
 simp only [List.getD]
 rw [List.getElem?_map, List.getElem?_range hi]
 show Nv.get l _ = _
 unfold Nv.get
 rw [if_pos (by omega), show ((a : Int) + (i : Int)).toNat = a + i by omega]
 rfl
/-- a slot's two lines last, and hold z -/
structure Sl (d : Nv.D) (k : Nat) (z : List Int) : Prop where
 a : Ln d (8 + 8 * k) (fun x => z.getD (x - (64 + 64 * k)) 0)
 b : Ln d (9 + 8 * k) (fun x => z.getD (x - (64 + 64 * k)) 0)
variable {d : Nv.D} {k : Nat} {z : List Int}
theorem Sl.gets (h : Sl d k z) (hl : d.cache.length = 512) (hk : k = 0 ∨ k = 1) (hz : z.length = 16) : getsA d.cache (64 + 64 * k) 16 = z := by
 refine getsA_is _ _ _ (by omega) hz fun i hi => ?_
 by_cases h8 : i < 8
 ·have := h.a.va (64 + 64 * k + i) (by omega)
  rw [this]; show z.getD (64 + 64 * k + i - (64 + 64 * k)) 0 = _
  rw [show 64 + 64 * k + i - (64 + 64 * k) = i by omega]
 ·have := h.b.va (64 + 64 * k + i) (by omega)
  rw [this]; show z.getD (64 + 64 * k + i - (64 + 64 * k)) 0 = _
  rw [show 64 + 64 * k + i - (64 + 64 * k) = i by omega]
theorem Sl.keep (h : Sl d k z) (hI : Inv d 64) (hk : k = 0 ∨ k = 1) (E : Int) (ws : List Int) : Sl (cm d 64 E k ws).1 k z :=
 ⟨h.a.cm hI E k ws (fun i hi => by omega), h.b.cm hI E k ws (fun i hi => by omega)⟩
theorem Sl.wr (hI : Inv d 64) (ws : List Int) (hk : k = 0 ∨ k = 1) (h : (Nv.wr d 64 (64 + 64 * k) ws).2 = 0) : Sl (Nv.wr d 64 (64 + 64 * k) ws).1 k ws := by
 have hw := fun i hi => wr_there hI h i hi
 refine ⟨⟨?_, fun x hx => ?_⟩, ⟨?_, fun x hx => ?_⟩⟩
 ·have := (hw 0 (by omega)).2
  rwa [show (64 + 64 * k + 0) / 8 = 8 + 8 * k by omega] at this
 ·have := (hw (x - (64 + 64 * k)) (by omega)).1
  rwa [show 64 + 64 * k + (x - (64 + 64 * k)) = x by omega] at this
 ·have := (hw 8 (by omega)).2
  rwa [show (64 + 64 * k + 8) / 8 = 9 + 8 * k by omega] at this
 ·have := (hw (x - (64 + 64 * k)) (by omega)).1
  rwa [show 64 + 64 * k + (x - (64 + 64 * k)) = x by omega] at this
theorem Sl.new (hI : Inv d 64) (E : Int) (ws : List Int) (hk : k = 0 ∨ k = 1) (h : (cm d 64 E k ws).2 = 0) : Sl (cm d 64 E k ws).1 (1 - k) ws := by
 unfold Nv.cm at h ⊢
 split
 ·rename_i hb; rw [if_pos hb] at h; cases h
 rename_i hb
 rw [if_neg hb] at h
 split
 ·rename_i hz
  rw [if_pos hz] at h
  exact Sl.wr (hI.wi _ E) ws (by omega) h
 ·rename_i hz
  rw [if_neg hz] at h; exact absurd h hz
theorem Sl.crash (h : Sl d k z) (hI : Inv d 64) (hk : k = 0 ∨ k = 1) (cs : List Int) (n : Nat) : Sl (Nv.load (crashTo d (dirtyTo d.dirty 64) cs n) 64) k z :=
 ⟨h.a.crash hI (by omega) cs n, h.b.crash hI (by omega) cs n⟩
theorem rep_false (n j : Nat) : (List.replicate n false).getD j false = false := by
 simp only [List.getD, List.getElem?_replicate]
 split <;> rfl
theorem Sl.load {ws : List Int} (hw : ws.length = 512) (hk : k = 0 ∨ k = 1) : Sl (Nv.load ws 64) k (getsA ws (64 + 64 * k) 16) := by
 have hc : ∀ j, (Nv.load ws 64).dirty.getD j false = false := fun j => by
  exact rep_false 64 j
 refine ⟨⟨hc _, fun x hx => ?_⟩, ⟨hc _, fun x hx => ?_⟩⟩
 ·show ws.getD x 0 = (getsA ws (64 + 64 * k) 16).getD (x - (64 + 64 * k)) 0
  rw [getsA_getD _ _ _ (by omega) (by omega), show 64 + 64 * k + (x - (64 + 64 * k)) = x by omega]
 ·show ws.getD x 0 = (getsA ws (64 + 64 * k) 16).getD (x - (64 + 64 * k)) 0
  rw [getsA_getD _ _ _ (by omega) (by omega), show 64 + 64 * k + (x - (64 + 64 * k)) = x by omega]
/- what a slot says -/
def Rts (R : List Int) : Prop := R.length = 8 ∧ St.okR R
theorem Rts.i64 {R : List Int} (h : Rts R) : ∀ r ∈ R, I64 r := fun r hr => by
 have := h.2 r hr
 exact ⟨by omega, by omega⟩
theorem dC_ok {z : List Int} (hz : z.length = 16) (hU : Im.U z) (h : dC z = 0) : 0 < dVE z ∧ dVE z ≤ 18446744073709551615 ∧ Rts (dVR z) := by
 have hd : dVE z = dE z ∧ dVR z = dR z := by unfold dVE dVR; rw [if_pos h, if_pos h]; exact ⟨rfl, rfl⟩
 rw [hd.1, hd.2]
 obtain ⟨l0, l1, l2, l3, l4, l5, l6, l7, l8, l9, l10, l11, l12, l13, l14, l15, rfl⟩ := list16 hz
 unfold dC at h
 simp only [] at h
 split at h
 ·cases h
 split at h
 ·cases h
 split at h
 ·rename_i ho
  have h1 := ho.1
  unfold St.rightB at h1
  have h2 := of_decide_eq_true h1
  have h0 := hU l0 (by simp)
  exact ⟨h2.2, h0.2, rfl, h2.1⟩
 ·cases h
theorem chK_yes {a b : List Int} (h : dC a = 0 ∨ dC b = 0) : chK a b ≠ -1 := by
 unfold chK
 split
 ·decide
 ·split
  ·decide
  ·rename_i h1 h2
   rcases h with h | h
   ·exact absurd ⟨h, .inl h2⟩ h1
   ·exact absurd h h2
theorem ch_ok {a b : List Int} (la : a.length = 16) (lb : b.length = 16) (ha : Im.U a) (hb : Im.U b) (h : chK a b ≠ -1) : ∃ k : Nat, (k = 0 ∨ k = 1) ∧ chK a b = (k : Int) ∧ dC (if k = 0 then a else b) = 0 ∧ 0 < chE a b ∧ chE a b ≤ 18446744073709551615 ∧ Rts (chR a b) := by
 rcases chK_or a b with h0 | h1 | h2
 ·have hd : dC a = 0 := by
   unfold chK at h0
   split at h0
   ·rename_i h; exact h.1
   ·split at h0 <;> cases h0
  obtain ⟨e1, e2⟩ := ch0 h0
  rw [e1, e2]
  obtain ⟨x1, x2, x3⟩ := dC_ok la ha hd
  exact ⟨0, .inl rfl, h0, hd, x1, x2, x3⟩
 ·have hd : dC b = 0 := by
   unfold chK at h1
   split at h1
   ·cases h1
   ·split at h1
    ·assumption
    ·cases h1
  obtain ⟨e1, e2⟩ := ch1 h1
  rw [e1, e2]
  obtain ⟨x1, x2, x3⟩ := dC_ok lb hb hd
  exact ⟨1, .inr rfl, h1, hd, x1, x2, x3⟩
 ·exact absurd h2 h
open Classical in
theorem dec_enc (E : Int) (R : List Int) (hE : 0 < E) (hR : Rts R) : dC (encL E R) = 0 ∧ dVE (encL E R) = E ∧ dVR (encL E R) = R := by
 obtain ⟨r0, r1, r2, r3, r4, r5, r6, r7, rfl⟩ := list8 hR.1
 have hr := St.rightB_yes E [r0, r1, r2, r3, r4, r5, r6, r7] hR.2 hE
 have e : encL E [r0, r1, r2, r3, r4, r5, r6, r7] = [E, r0, r1, r2, r3, 0, 0, St.sum0 E r0 r1 r2 r3, E, r4, r5, r6, r7, 1, 0, St.sum1 E r4 r5 r6 r7] := by
  show (if St.rightB E [r0, r1, r2, r3, r4, r5, r6, r7] = true then _ else _) = _
  rw [if_pos hr]
 rw [e]
 have h : dC [E, r0, r1, r2, r3, 0, 0, St.sum0 E r0 r1 r2 r3, E, r4, r5, r6, r7, 1, 0, St.sum1 E r4 r5 r6 r7] = 0 := by
  have a1 : St.sum0 E r0 r1 r2 r3 = St.sum7 E r0 r1 r2 r3 0 0 := rfl
  have a2 : St.sum1 E r4 r5 r6 r7 = St.sum7 E r4 r5 r6 r7 1 0 := rfl
  simp only [dC, ← a1, ← a2, ne_eq, not_true_eq_false, if_false]
  rw [if_pos]
  exact ⟨hr, rfl, rfl, rfl, rfl, rfl⟩
 refine ⟨h, ?_, ?_⟩
 ·unfold dVE; rw [if_pos h]; rfl
 ·unfold dVR; rw [if_pos h]; rfl
theorem enc_U (E : Int) (R : List Int) (hE : U64s E) : Im.U (encL E R) := by
 unfold encL
 split
 ·rename_i r0 r1 r2 r3 r4 r5 r6 r7
  split
  ·rename_i h
   obtain ⟨h0, h1, h2, h3, h4, h5, h6, h7, h8⟩ := rightB_all h
   have s0 := St.sum0_bd E r0 r1 r2 r3
   have s1 := St.sum1_bd E r4 r5 r6 r7
   unfold U64s at hE
   intro x hx
   simp only [List.mem_cons, List.not_mem_nil, or_false] at hx
   rcases hx with rfl | rfl | rfl | rfl | rfl | rfl | rfl | rfl | rfl | rfl | rfl | rfl | rfl | rfl | rfl | rfl <;> omega
  ·intro x hx
   simp only [List.mem_cons, List.not_mem_nil, or_false, or_self] at hx
   omega
 ·intro x hx
  simp only [List.mem_cons, List.not_mem_nil, or_false, or_self] at hx
  omega
theorem dC_zero : dC [0, 0, 0, 0, 0, 0, 0, 0, 0, 0, 0, 0, 0, 0, 0, 0] ≠ 0 := fun h => by
 have h1 := (dC_ok rfl (by intro x hx; simp at hx; omega) h).1
 unfold dVE at h1
 rw [if_pos h] at h1
 exact absurd (show (0 : Int) < 0 from h1) (by decide)
/-- what a table is: its slot lasts, and says something -/
structure RG (d : Nv.D) (E : Int) (R : List Int) (k : Nat) (V : List Int) : Prop where
 inv : Inv d 64
 ud : Ud d
 kk : k = 0 ∨ k = 1
 sl : ∃ z : List Int, z.length = 16 ∧ Sl d k z ∧ dC z = 0
 E0 : 0 < E
 E1 : E ≤ 18446744073709551615
 hR : Rts R
 hV : Rts V
theorem RG.len {d : Nv.D} {E : Int} {R V : List Int} {k : Nat} (h : RG d E R k V) : d.cache.length = 512 := by rw [h.inv.ok.hc]
theorem RG.set {d : Nv.D} {E : Int} {R V : List Int} {k : Nat} (h : RG d E R k V) (i : Nat) (v : Int) (hv : 0 ≤ v ∧ v < 131072) : RG d E R k (V.set i v) :=
 { h with hV := ⟨by rw [List.length_set]; exact h.hV.1, fun x hx => by
   rcases List.mem_or_eq_of_mem_set hx with h1 | h1
   ·exact h.hV.2 x h1
   ·rw [h1]; omega⟩ }
theorem RG.back {d : Nv.D} {E : Int} {R V : List Int} {k : Nat} (h : RG d E R k V) : RG d E R k R := { h with hV := h.hR }
theorem RG.crash {d : Nv.D} {E : Int} {R V : List Int} {k : Nat} (h : RG d E R k V) (cs : List Int) (n : Nat) : chK (getsA (crashTo d (dirtyTo d.dirty 64) cs n) 64 16) (getsA (crashTo d (dirtyTo d.dirty 64) cs n) 128 16) ≠ -1 := by
 obtain ⟨z, h1, h2, h3⟩ := h.sl
 have hs := (h2.crash h.inv h.kk cs n).gets (crashTo_len h.inv.ok cs n) h.kk h1
 apply chK_yes
 rcases h.kk with rfl | rfl
 ·exact .inl (by rw [show getsA (crashTo d (dirtyTo d.dirty 64) cs n) 64 16 = z from hs]; exact h3)
 ·exact .inr (by rw [show getsA (crashTo d (dirtyTo d.dirty 64) cs n) 128 16 = z from hs]; exact h3)
end Go.Proofs.Ytmekhdclnhhhbaa
end

section
namespace Go.Proofs.Ytmekhdclnhhhbaa
open Go.RowKit
/-- a call, as the script holds it -/
structure OpS where
 k : Int
 a : Int
 n : Int
 v : Int
 A : Option Addr
 nc : Nat
 cc : Nat
 cs : List Int
def OpS.cells (o : OpS) : List Value := [.int .i64 o.k, .int .i64 o.a, .int .i64 o.n, .int .u64 o.v, .slice o.A o.nc o.cc]
structure OpOk (w : World) (o : OpS) : Prop where
 see : Sees (Value.int .u8) w [] o.A o.cs
 len : o.cs.length = o.nc
 bd : ∀ z ∈ o.cs, 0 ≤ z
 n1 : -9223372036854775808 ≤ o.n ∧ o.n ≤ 9223372036854775807
 ncb : o.nc ≤ 9223372036854775807
 vb : 0 ≤ o.v ∧ o.v ≤ 18446744073709551615
def Script (w : World) (A : Option Addr) (ops : List OpS) : Prop := (ops.length ≠ 0 → ∃ b o, A = some ⟨b, o, none⟩ ∧ ∀ i op, ops[i]? = some op → Reads (fun v : Value => v) w b (o + i * 5) op.cells) ∧ ∀ op ∈ ops, OpOk w op
end Go.Proofs.Ytmekhdclnhhhbaa
end

section
namespace Go.Proofs.Ytmekhdclnhhhbaa
open Go.RowKit
def start (zs : List Int) : Nv.D := Nv.load (zs ++ List.replicate (8 * ((zs.length + 7) / 8) - zs.length) 0) ((zs.length + 7) / 8)
end Go.Proofs.Ytmekhdclnhhhbaa
end

section
namespace Go.Proofs.Ytmekhdclnhhhbaa
section
open Go.ChangeShapes Go.WideShapes Go.Deep
variable {H : Type} {enc : TypeId × Value → H} {w : World} {base : Nat} {spare : Nat → Bool} {held : Bool}
end
open Go.RowKit
theorem OpOk.later {w W : World} {o : OpS} (h : OpOk w o) (hO : Only [] w W) : OpOk W o := ⟨h.see.later hO (by simp), h.len, h.bd, h.n1, h.ncb, h.vb⟩
theorem Script.later {w W : World} {A : Option Addr} {ops : List OpS} (h : Script w A ops) (hO : Only [] w W) : Script W A ops :=
 ⟨fun h0 => by
  obtain ⟨b, o, e, hr⟩ := h.1 h0
  exact ⟨b, o, e, fun i op hi => (hr i op hi).later hO (by simp)⟩, fun op hop => (h.2 op hop).later hO⟩
end Go.Proofs.Ytmekhdclnhhhbaa
end

section
namespace Go.Proofs.Ytmekhdclnhhhbaa
open Go.RowKit
section
variable {P : Program} {n : Nat} {f : Nat → Value} {W : World} {v : Value}
theorem run_results4 {fn : Func} {r r2 r3 r4 : ResultVar} {v2 v3 v4 : Value} (hr : fn.results = #[r, r2, r3, r4]) (h : RV P W n f r v) (h2 : RV P W n f r2 v2) (h3 : RV P W n f r3 v3) (h4 : RV P W n f r4 v4) : (results fn (Fn n f).tmps).run P W = .ok (.tuple #[v, v2, v3, v4]) W := by
 rcases rv_open r h with ⟨t, rfl, h1⟩ | ⟨a, t, q, rfl, h1, h1'⟩ <;> rcases rv_open r2 h2 with ⟨t2, rfl, g4⟩ | ⟨a2, t2, q2, rfl, g4, g4'⟩ <;> rcases rv_open r3 h3 with ⟨t3, rfl, h5⟩ | ⟨a3, t3, q3, rfl, h5, h5'⟩ <;> rcases rv_open r4 h4 with ⟨t4, rfl, h6⟩ | ⟨a4, t4, q4, rfl, h6, h6'⟩ <;> simp_all [results, hr, Sem.run_bind, run_asAddr]
theorem fx4r {fn : Func} {R : Ending → World → Prop} {r r2 r3 r4 : ResultVar} {v2 v3 v4 : Value} (hr : fn.results = #[r, r2, r3, r4]) (h : RV P W n f r v) (h2 : RV P W n f r2 v2) (h3 : RV P W n f r3 v3) (h4 : RV P W n f r4 v4) (hR : R (.returned (.tuple #[v, v2, v3, v4])) W) : PQ (bodyPost P fn R) .ret n f W := ⟨bodyPost_ret (run_results4 hr h h2 h3 h4) rfl hR⟩
end
section
variable {P : Program} {n : Nat} {f : Nat → Value} {W : World} {v : Value} {dst : Option Tmp} {t ty : TypeId} {pos : String} {af : Array Edge} {g : Option (Nat × Bool)} {x y : Operand}
theorem r_ixv {u : Value} {cs : List Value} (hf : ∀ W, (Instr.index t (.agg cs.toArray) u).run P W = .ok v W) (hx : ev n f x = .agg cs.toArray) (hy : ev n f y = u) :
  (execOp (ev n f) ⟨dst, .index t x y, ty, pos, af, g⟩).run P W = .ok (.value v) W := by
 simp only [execOp, hx, hy, Sem.run_bind, hf, Result.andThen_ok]; rfl
end
theorem ix8_2 (y0 y1 y2 y3 y4 y5 y6 y7 : Value) (W : World) : (Instr.index 87 (.agg [y0, y1, y2, y3, y4, y5, y6, y7].toArray) (.int .i64 2)).run Try.prog W = .ok y2 W := by kernel_rfl
theorem ids_pre {A L : List Ent} {i : Nat} (h : i ∈ ids A) : i ∈ ids (A ++ L) := by
 unfold ids at *
 rw [List.flatMap_append]
 exact List.mem_append_left _ h
def z8 : List Int := [0, 0, 0, 0, 0, 0, 0, 0]
def d512 : Nv.D := Nv.load (List.replicate 512 0) 64
theorem z8R : Rts z8 := ⟨rfl, by unfold z8 St.okR; intro r hr; simp at hr; omega⟩
theorem d512_len : (List.replicate 512 (0 : Int)).length = 512 := List.length_replicate
theorem d512_inv : Nv.Inv d512 64 := Nv.Inv.load _ _ d512_len
theorem d512_ud : Nv.Ud d512 := Nv.Ud.load (fun x hx => by rw [(List.mem_replicate.1 hx).2]; decide) 64
theorem d512_live : Nv.Live d512 := Nv.Live.load _ _
/-- a formatted device -/
def dB : Nv.D := (Nv.wr d512 64 64 (encL 1 z8)).1
theorem dB_ok : (Nv.wr d512 64 64 (encL 1 z8)).2 = 0 := (Nv.wr_live d512_live _ (by omega)).1
theorem dB_live : Nv.Live dB := (Nv.wr_live d512_live _ (by omega)).2
theorem dB_inv : Nv.Inv dB 64 := d512_inv.wr _ _
theorem dB_ud : Nv.Ud dB := d512_ud.wr 64 64 (enc_U 1 z8 ⟨by omega, by omega⟩)
theorem dB_sl : Sl dB 0 (encL 1 z8) := Sl.wr (k := 0) d512_inv (encL 1 z8) (.inl rfl) dB_ok
theorem dB_len : dB.cache.length = 512 := by rw [dB_inv.ok.hc]
theorem dB_a : getsA dB.cache 64 16 = encL 1 z8 := dB_sl.gets dB_len (.inl rfl) (encL_len _ _)
theorem zero_at (i : Nat) : (List.replicate 512 (0 : Int)).getD i 0 = 0 := by
 simp only [List.getD, List.getElem?_replicate]; split <;> rfl
theorem zero_sl : Sl d512 1 [0, 0, 0, 0, 0, 0, 0, 0, 0, 0, 0, 0, 0, 0, 0, 0] := by
 have h := Sl.load (k := 1) d512_len (.inr rfl)
 have e : getsA (List.replicate 512 (0 : Int)) (64 + 64 * 1) 16 = [0, 0, 0, 0, 0, 0, 0, 0, 0, 0, 0, 0, 0, 0, 0, 0] := by
  refine getsA_is _ _ _ (by rw [d512_len]; omega) rfl fun i hi => ?_
  rw [zero_at]
  have : ∀ i, i < 16 → ([0, 0, 0, 0, 0, 0, 0, 0, 0, 0, 0, 0, 0, 0, 0, 0] : List Int).getD i 0 = 0 := by decide
  exact (this i hi).symm
 rw [e] at h
 exact h
theorem dB_sl1 : Sl dB 1 [0, 0, 0, 0, 0, 0, 0, 0, 0, 0, 0, 0, 0, 0, 0, 0] :=
 ⟨zero_sl.a.wr d512_inv 64 _ (fun i hi => by omega), zero_sl.b.wr d512_inv 64 _ (fun i hi => by omega)⟩
theorem dB_b : getsA dB.cache 128 16 = [0, 0, 0, 0, 0, 0, 0, 0, 0, 0, 0, 0, 0, 0, 0, 0] := dB_sl1.gets dB_len (.inr rfl) rfl
theorem dB_ch : chK (getsA dB.cache 64 16) (getsA dB.cache 128 16) = 0 ∧ chE (getsA dB.cache 64 16) (getsA dB.cache 128 16) = 1 ∧ chR (getsA dB.cache 64 16) (getsA dB.cache 128 16) = z8 := by
 obtain ⟨h1, h2, h3⟩ := dec_enc 1 z8 (by omega) z8R
 have hk : chK (getsA dB.cache 64 16) (getsA dB.cache 128 16) = 0 := by
  rw [dB_a, dB_b]
  unfold chK
  rw [if_pos ⟨h1, .inl dC_zero⟩]
 obtain ⟨e1, e2⟩ := ch0 hk
 refine ⟨hk, e1.trans ?_, e2.trans ?_⟩
 ·rw [dB_a]; exact h2
 ·rw [dB_a]; exact h3
set_option maxRecDepth 20000 in
theorem rNew5 (F : List Nat) (w : World) (hF : ∀ i ∈ F, i < w.heap.size) :
  Calls Try.prog 34 [.int .i64 512].toArray w fun e w' => ∃ s', e = .returned (.agg (refCells s' d512 64).toArray) ∧ Heap w [] [] w' ∧ RefOk w' F s' d512 64 := by
 have H := Heap.nil w
 have hL := fun b G W hz hF => rLoad (some ⟨b, 0, none⟩) 512 512 (List.replicate 512 0) G W hz d512_len (by omega) hF
 have e1 : (512 + 7) / 8 = 64 := rfl
 have e2 : 8 * 64 - 512 = 0 := rfl
 simp only [e1, e2, List.replicate_zero, List.append_nil] at hL
 rw [← d512] at hL
 refine k_in (N := 7) Try.func34 rfl rfl rfl ?_
 refine k_sg ?_
 refine s_al H rfl inf55 ?_
 intro p2 _ H'; clear H; have H := H'; clear H'
 refine k_nc ?_
 refine k_sg ?_
 refine s_run rfl rfl (rmi rfl) ?_
 refine s_run rfl rfl (r_max (c := 512) rfl rfl rfl) ?_
 refine s_mk (Value.int .u64) 0 (m := 512) H rfl rfl rfl (by omega) (by omega) (by omega) Try.underlying25 inf22 rfl ?_
 intro b _ H'; clear H; have H := H'; clear H'
 refine s_call rfl (hL b _ _ (H.sees 0 rfl (F := []) (by simp) (m := 512) (fun _ => rfl) (fun _ => by omega)) (H.fl hF)) (ca44 rfl) ?_
 rintro e W1 ⟨s', rfl, H', hr⟩
 refine ⟨_, rfl, ?_⟩
 have H := H.same H'.only; clear H'; rw [refE]; have HB := H; clear H; have H := Heap.start HB.ents
 refine s_sw H 1 rfl rfl rfl rfl rfl rfl rfl sz55 ?_
 clear H; intro _ H; simp only [jA, jB, jC, jD, jE, jF, jG, jH, jI, jJ, jK, Nat.reduceAdd] at H
 refine k_nc ?_
 refine k_ret ?_
 refine fx1r rfl (rv_a H 1 rfl rfl rfl ag55 sz55) ?_
 exact ⟨s', rfl, (HB.whole H).clear, (hr.later H.only (fun _ h => List.mem_append_right _ h)).news (fun i hi => .inl (List.mem_append_left _ hi))⟩
end Go.Proofs.Ytmekhdclnhhhbaa
end

section
namespace Go.Proofs.Ytmekhdclnhhhbaa
open Go.RowKit
theorem tOpenY (g : Geo) (d : Nv.D) (w : World) (hE : Ents (devL g d) w) (hU : Im.U d.cache) {K E : Int} {R : List Int} (hK : chK (getsA d.cache 64 16) (getsA d.cache 128 16) = K) (h1 : chE (getsA d.cache 64 16) (getsA d.cache 128 16) = E) (h2 : chR (getsA d.cache 64 16) (getsA d.cache 128 16) = R) (hn : K ≠ -1) :
  Calls Try.prog 61 [ptr g.p].toArray w fun e w' => ∃ t, e = .returned (.tuple #[ptr t, .int .i64 0]) ∧ Heap w [] [blk t (tabC g.p E R K R) 149] w' := by
 refine (tOpen g d w hE hU).mono ?_
 rw [hK, h1, h2]
 rintro e w' (⟨h, _⟩ | ⟨_, h⟩)
 ·exact absurd h hn
 ·exact h
theorem rtOpenY (s : RefS) (d : Nv.D) (m : Nat) (F : List Nat) (w : World) (hr : RefOk w F s d m) (hm : m ≤ 100000) (hU : Im.U d.cache) {K E : Int} {R : List Int} (hK : chK (getsA d.cache 64 16) (getsA d.cache 128 16) = K) (h1 : chE (getsA d.cache 64 16) (getsA d.cache 128 16) = E) (h2 : chR (getsA d.cache 64 16) (getsA d.cache 128 16) = R) (hn : K ≠ -1) :
  Calls Try.prog 62 [.agg (refCells s d m).toArray].toArray w fun e w' => e = .returned (.tuple #[.agg (refTab s d m E R K R).toArray, .int .i64 0]) ∧ Only [] w w' := by
 refine (rtOpen s d m F w hr hm hU).mono ?_
 rw [hK, h1, h2]
 rintro e w' (⟨h, _⟩ | ⟨_, h⟩)
 ·exact absurd h hn
 ·exact h
set_option maxRecDepth 20000 in
theorem lBegun (w : World) : Calls Try.prog 58 [].toArray w fun e w' => ∃ (g : Geo) (t : Nat) (s : RefS), e = .returned (.tuple #[ptr g.p, ptr t, .agg (refTab s dB 64 1 z8 0 z8).toArray, .bool true]) ∧
  Heap w [] [blk t (tabC g.p 1 z8 0 z8) 149, grp (devL g dB)] w' ∧ RefOk w' (ids [blk t (tabC g.p 1 z8 0 z8) 149, grp (devL g dB)]) s dB 64 ∧ GOk g 64 := by
 have H := Heap.nil w
 have hN := fun W => nNew 512 W (by omega)
 rw [show ((512 : Int).toNat + 7) / 8 = 64 from rfl] at hN
 rw [show 8 * 64 = 512 from rfl, ← d512] at hN
 have hFo := fun g W hE hg => tFormat g d512 64 W hE d512_inv hg (by omega)
 rw [show encL 1 [0, 0, 0, 0, 0, 0, 0, 0] = encL 1 z8 from rfl, dB_ok, ← dB] at hFo
 have hOp := fun g W hE => tOpenY g dB W hE dB_ud.c dB_ch.1 dB_ch.2.1 dB_ch.2.2 (by decide)
 have hWr := fun s F W hr hF => rtWrite s d512 64 0 1 z8 F W hr hF d512_inv (by omega) (.inl rfl) rfl ⟨by omega, by omega⟩ z8R.i64
 rw [show 64 + 64 * 0 = 64 from rfl, dB_ok, ← dB] at hWr
 have hOr := fun s F W hr => rtOpenY s dB 64 F W hr (by omega) dB_ud.c dB_ch.1 dB_ch.2.1 dB_ch.2.2 (by decide)
 have hS := fun g s W hE hr => lSame g dB s 64 W hE hr (by omega)
 have hN5 := rNew5
 generalize dB = DB at *
 generalize d512 = D0 at *
 refine k_in (N := 51) Try.func58 rfl rfl rfl ?_
 refine k_sg ?_
 refine s_run rfl rfl (rap rfl) ?_
 refine s_run rfl rfl (rap rfl) ?_
 refine s_al H rfl inf91 ?_
 intro p2 _ H'; clear H; have H := H'; clear H'
 refine s_run rfl rfl (rab rfl) ?_
 refine k_nc ?_
 refine k_sg ?_
 refine s_call rfl (hN _) (ca21 rfl) ?_
 rintro e W1 ⟨g, rfl, hg, H'⟩
 refine ⟨_, rfl, ?_⟩
 have H := H.more (A := [grp _]) (grp_heap H'); clear H'; simp only [List.cons_append, List.nil_append] at H
 refine s_run rfl rfl (rap rfl) ?_
 refine k_nc ?_
 refine k_seq ?_
 refine k_sg ?_
 refine s_run rfl rfl (rmp rfl) ?_
 refine s_run rfl rfl (r_ptnilF rfl rfl Try.underlying26) ?_
 refine s_run rfl rfl (rmb rfl) ?_
 refine s_run rfl (g_on 14 (by kernel_rfl) rfl) (rmp rfl) ?_
 refine s_call (g_on 14 (by kernel_rfl) rfl) (hFo g _ (H.grp_ents 0 rfl) hg) (ca97 rfl) ?_
 rintro e W1 ⟨rfl, H'⟩
 refine ⟨_, rfl, ?_⟩
 have H1 := H.grp_at 0 rfl H'; clear H H'; have H := H1; clear H1; simp only [List.set_cons_succ, List.set_cons_zero] at H
 refine s_run rfl (g_on 14 (by kernel_rfl) rfl) (r_neqF rfl rfl (by omega)) ?_
 refine s_run rfl rfl (r_pkF (v := .bool _) rfl rfl) ?_
 refine k_nc ?_
 refine k_f rfl ?_
 refine k_skip ?_
 refine c_norm ?_
 refine k_sg ?_
 refine s_run rfl rfl (rmp rfl) ?_
 refine s_call rfl (hOp g _ (H.grp_ents 0 rfl)) (ca61 rfl) ?_
 rintro e W1 ⟨t, rfl, H'⟩
 refine ⟨_, rfl, ?_⟩
 have H1 := H.more H'; clear H H'; have H := H1; clear H1; simp only [List.cons_append, List.nil_append] at H
 refine s_run rfl rfl (rmt rfl) ?_
 refine s_run rfl rfl (r_ext (v := .pointer _) rfl rfl) ?_
 refine s_run rfl rfl (r_ext (v := .int _ _) rfl rfl) ?_
 refine s_run rfl rfl (rap rfl) ?_
 refine s_run rfl rfl (rai rfl) ?_
 refine k_nc ?_
 refine k_sg ?_
 refine s_call rfl (hN5 _ _ H.idlt) (ca34 rfl) ?_
 rintro e W1 ⟨s, rfl, H', hr⟩
 refine ⟨_, rfl, ?_⟩
 have H := H.same H'.only; clear H'; have HB := H; clear H; have H := Heap.start HB.ents
 refine s_run rfl rfl (r_bd (bd89_0 _) rfl) ?_
 refine s_call rfl (hWr s _ _ (hr.later H.only (fun _ h => h)) H.idlt) (ca98 rfl) ?_
 rintro e W1 ⟨s2, rfl, H', hr2⟩
 refine ⟨_, rfl, ?_⟩
 have H := H.same H'.only; clear H'; have HB2 := H; clear H; have H := Heap.start HB2.ents
 refine s_run rfl rfl (rmt rfl) ?_
 refine s_run rfl rfl (r_ext (v := .agg _) rfl rfl) ?_
 refine s_run rfl rfl (r_ext (v := .int _ _) rfl rfl) ?_
 refine s_al H rfl inf55 ?_
 intro p7 _ H'; clear H; have H := H'; clear H'
 refine s_sw H 0 rfl rfl rfl rfl rfl rfl rfl sz55 ?_
 clear H; intro _ H; simp only [jA, jB, jC, jD, jE, jF, jG, jH, jI, jJ, jK, Nat.reduceAdd] at H
 refine s_run rfl rfl (rai rfl) ?_
 refine k_nc ?_
 refine k_sg ?_
 refine s_run rfl rfl (r_la H 0 rfl rfl rfl ag55 sz55) ?_
 refine s_call rfl (hOr s2 _ _ (hr2.later H.only (fun _ h => h))) (ca62 rfl) ?_
 rintro e W1 ⟨rfl, H'⟩
 refine ⟨_, rfl, ?_⟩
 have H := H.same H'; clear H'
 refine s_run rfl rfl (rmt rfl) ?_
 refine s_run rfl rfl (r_ext (v := .agg _) rfl rfl) ?_
 refine s_run rfl rfl (r_ext (v := .int _ _) rfl rfl) ?_
 refine s_al H rfl inf91 ?_
 intro p9 _ H'; clear H; have H := H'; clear H'
 refine s_sw H 0 rfl rfl rfl rfl rfl rfl rfl sz91 ?_
 clear H; intro _ H; simp only [jA, jB, jC, jD, jE, jF, jG, jH, jI, jJ, jK, Nat.reduceAdd] at H
 refine s_run rfl rfl (rai rfl) ?_
 refine k_nc ?_
 refine k_seq ?_
 refine k_trF mixed ?_; have H' := H.drew; clear H; have H := H'; clear H'
 refine tqh 0 rfl rfl rfl (fun _ hS => r_mv (v := .pointer _) rfl) trivial ?_
 refine tqh 1 rfl rfl rfl (fun _ hS => r_mv (v := .pointer _) rfl) trivial ?_
 refine tqh 3 rfl rfl rfl (fun _ hS => r_mv (v := .int _ _) rfl) trivial ?_
 refine tqh 4 rfl rfl rfl (fun _ hS => r_eqlT rfl rfl (by omega)) trivial ?_
 refine tqh 5 rfl rfl rfl (fun _ hS => r_mv (v := .bool _) rfl) trivial ?_
 refine tqh 6 rfl rfl (g_on 41 (by kernel_rfl) rfl) (fun _ hS => r_mv (v := .pointer _) rfl) trivial ?_
 refine tqh 7 rfl rfl (g_on 41 (by kernel_rfl) rfl) (fun _ hS => r_ptnnilT rfl rfl Try.underlying86) trivial ?_
 refine tqh 8 rfl rfl rfl (fun _ hS => r_pkT (v := .bool _) rfl rfl) trivial ?_
 refine tqh 9 rfl rfl rfl (fun _ hS => r_mv (v := .bool _) rfl) trivial ?_
 refine tqh 10 rfl rfl (g_on 45 (by kernel_rfl) rfl) (fun _ hS => r_mv (v := .pointer _) rfl) trivial ?_
 refine tqh 11 rfl rfl (g_on 45 (by kernel_rfl) rfl) (fun _ hS => r_fa0 rfl fo91_0) trivial ?_
 refine t_up2 2 12 (by kernel_rfl) ?_ ?_
 ·refine up_mk rfl ?_
  refine s_run rfl rfl (r_la H 0 rfl rfl rfl ag91 sz91) ?_
  refine k_nil ?_
  refine t_on trivial ?_
  refine t_up1 12 (by kernel_rfl) ?_
  refine up_mk rfl ?_
  refine s_run rfl (g_on 45 (by kernel_rfl) rfl) (r_lp H 0 (vs := refCells s2 DB 64) rfl rfl rfl rfl ag55 sz55) ?_
  refine k_nil ?_
  refine t_on trivial ?_
  refine t_up1 13 (by kernel_rfl) ?_
  refine up_mk rfl ?_
  refine s_call (g_on 45 (by kernel_rfl) rfl) (hS g s2 _ (H.grp_ents 3 rfl) ((hr2.later H.only (fun _ h => h)).news (by simp))) (ca56 rfl) ?_
  rintro e W1 ⟨rfl, H'⟩
  refine ⟨_, rfl, ?_⟩
  have H := H.same H'; clear H'
  refine k_nil ?_
  refine t_on trivial ?_
  refine tqh 14 rfl rfl rfl (fun _ hS => r_pkT (v := .bool _) rfl rfl) trivial ?_
  refine tqh 15 rfl rfl rfl (fun _ hS => r_as (v := .pointer _) rfl) trivial ?_
  refine tqh 16 rfl rfl rfl (fun _ hS => r_as (v := .pointer _) rfl) trivial ?_
  refine t_up1 17 (by kernel_rfl) ?_
  refine up_mk rfl ?_
  refine s_sw H 4 rfl rfl rfl rfl rfl rfl rfl sz91 ?_
  clear H; intro _ H; simp only [jA, jB, jC, jD, jE, jF, jG, jH, jI, jJ, jK, Nat.reduceAdd] at H
  refine k_nil ?_
  refine t_on trivial ?_
  refine tqh 18 rfl rfl rfl (fun _ hS => r_as (v := .bool _) rfl) trivial ?_
  refine t_done (by kernel_rfl) ?_
  refine c_norm ?_
  refine k_ret ?_
  refine fx4r rfl (rv_t (v := .pointer _) rfl) (rv_t (v := .pointer _) rfl) (rv_a H 4 rfl rfl rfl ag91 sz91) (rv_t (v := .bool _) rfl) ?_
  have HW := HB.whole (HB2.whole H)
  exact ⟨g, t, s2, rfl, ((HW.drop).drop).drops (A := [_, _]), (hr2.later H.only (fun _ h => h)).news (fun i hi => .inl (ids_pre (A := [_, _]) hi)), hg⟩
 ·refine up_mk rfl ?_
  refine s_run rfl (g_on 45 (by kernel_rfl) rfl) (r_lp H 0 (vs := refCells s2 DB 64) rfl rfl rfl rfl ag55 sz55) ?_
  refine k_nil ?_
  refine t_on trivial ?_
  refine t_up2 2 13 (by kernel_rfl) ?_ ?_
  ·refine up_mk rfl ?_
   refine s_run rfl rfl (r_la H 0 rfl rfl rfl ag91 sz91) ?_
   refine k_nil ?_
   refine t_on trivial ?_
   refine t_up1 13 (by kernel_rfl) ?_
   refine up_mk rfl ?_
   refine s_call (g_on 45 (by kernel_rfl) rfl) (hS g s2 _ (H.grp_ents 3 rfl) ((hr2.later H.only (fun _ h => h)).news (by simp))) (ca56 rfl) ?_
   rintro e W1 ⟨rfl, H'⟩
   refine ⟨_, rfl, ?_⟩
   have H := H.same H'; clear H'
   refine k_nil ?_
   refine t_on trivial ?_
   refine tqh 14 rfl rfl rfl (fun _ hS => r_pkT (v := .bool _) rfl rfl) trivial ?_
   refine tqh 15 rfl rfl rfl (fun _ hS => r_as (v := .pointer _) rfl) trivial ?_
   refine tqh 16 rfl rfl rfl (fun _ hS => r_as (v := .pointer _) rfl) trivial ?_
   refine t_up1 17 (by kernel_rfl) ?_
   refine up_mk rfl ?_
   refine s_sw H 4 rfl rfl rfl rfl rfl rfl rfl sz91 ?_
   clear H; intro _ H; simp only [jA, jB, jC, jD, jE, jF, jG, jH, jI, jJ, jK, Nat.reduceAdd] at H
   refine k_nil ?_
   refine t_on trivial ?_
   refine tqh 18 rfl rfl rfl (fun _ hS => r_as (v := .bool _) rfl) trivial ?_
   refine t_done (by kernel_rfl) ?_
   refine c_norm ?_
   refine k_ret ?_
   refine fx4r rfl (rv_t (v := .pointer _) rfl) (rv_t (v := .pointer _) rfl) (rv_a H 4 rfl rfl rfl ag91 sz91) (rv_t (v := .bool _) rfl) ?_
   have HW := HB.whole (HB2.whole H)
   exact ⟨g, t, s2, rfl, ((HW.drop).drop).drops (A := [_, _]), (hr2.later H.only (fun _ h => h)).news (fun i hi => .inl (ids_pre (A := [_, _]) hi)), hg⟩
  ·refine up_mk rfl ?_
   refine s_call (g_on 45 (by kernel_rfl) rfl) (hS g s2 _ (H.grp_ents 3 rfl) ((hr2.later H.only (fun _ h => h)).news (by simp))) (ca56 rfl) ?_
   rintro e W1 ⟨rfl, H'⟩
   refine ⟨_, rfl, ?_⟩
   have H := H.same H'; clear H'
   refine k_nil ?_
   refine t_on trivial ?_
   refine tqh 14 rfl rfl rfl (fun _ hS => r_pkT (v := .bool _) rfl rfl) trivial ?_
   refine tqh 15 rfl rfl rfl (fun _ hS => r_as (v := .pointer _) rfl) trivial ?_
   refine tqh 16 rfl rfl rfl (fun _ hS => r_as (v := .pointer _) rfl) trivial ?_
   refine t_up1 2 (by kernel_rfl) ?_
   refine up_mk rfl ?_
   refine s_run rfl rfl (r_la H 0 rfl rfl rfl ag91 sz91) ?_
   refine k_nil ?_
   refine t_on trivial ?_
   refine t_up1 17 (by kernel_rfl) ?_
   refine up_mk rfl ?_
   refine s_sw H 4 rfl rfl rfl rfl rfl rfl rfl sz91 ?_
   clear H; intro _ H; simp only [jA, jB, jC, jD, jE, jF, jG, jH, jI, jJ, jK, Nat.reduceAdd] at H
   refine k_nil ?_
   refine t_on trivial ?_
   refine tqh 18 rfl rfl rfl (fun _ hS => r_as (v := .bool _) rfl) trivial ?_
   refine t_done (by kernel_rfl) ?_
   refine c_norm ?_
   refine k_ret ?_
   refine fx4r rfl (rv_t (v := .pointer _) rfl) (rv_t (v := .pointer _) rfl) (rv_a H 4 rfl rfl rfl ag91 sz91) (rv_t (v := .bool _) rfl) ?_
   have HW := HB.whole (HB2.whole H)
   exact ⟨g, t, s2, rfl, ((HW.drop).drop).drops (A := [_, _]), (hr2.later H.only (fun _ h => h)).news (fun i hi => .inl (ids_pre (A := [_, _]) hi)), hg⟩
end Go.Proofs.Ytmekhdclnhhhbaa
end

section
namespace Go.Proofs.Ytmekhdclnhhhbaa
open Go.RowKit
theorem Heap.one {w0 W : World} {F : List Nat} {L : List Ent} {E : Ent} (H : Heap w0 F L W) (k : Nat) (hk : L[k]? = some E) : Ents [E] W := Heap.part (A := [E]) (H.pick k hk)
def v600 : List Int := [0, 0, 600, 0, 0, 0, 0, 0]
theorem v600R : Rts v600 := ⟨rfl, by unfold v600 St.okR; intro r hr; simp at hr; omega⟩
/-- a slot that isn't wiped -/
theorem dB_wi : Nv.wi dB 64 (64 + 64 * (1 - 0)) 1 = (dB, 0) := by
 apply Nv.wi_no
 have h : ∀ i, i < 16 → dB.cache.getD (128 + i) 0 = 0 := fun i hi => by
  rw [← getsA_getD _ _ _ (by rw [dB_len]; omega) hi, dB_b]
  exact (show ∀ i, i < 16 → ([0, 0, 0, 0, 0, 0, 0, 0, 0, 0, 0, 0, 0, 0, 0, 0] : List Int).getD i 0 = 0 by decide) i hi
 have hl := dB_len
 have g : ∀ i : Nat, i < 16 → Nv.get dB.cache ((128 + i : Nat) : Int) = 0 := fun i hi => by
  unfold Nv.get
  rw [if_pos (by omega), Int.toNat_natCast]; exact h i hi
 have g0 := g 0 (by omega)
 have g8 := g 8 (by omega)
 constructor
 ·rw [show (((64 + 64 * (1 - 0) : Nat)) : Int) = ((128 + 0 : Nat) : Int) from rfl, g0]; omega
 ·rw [show (((64 + 64 * (1 - 0) : Nat)) : Int) + 8 = ((128 + 8 : Nat) : Int) from rfl, g8]; omega
theorem dCm_eq : Nv.cm dB 64 1 0 (encL (1 + 1) v600) = Nv.wr dB 64 (64 + 64 * (1 - 0)) (encL (1 + 1) v600) := by
 unfold Nv.cm
 rw [if_neg (by omega), dB_wi, if_pos rfl]
theorem dCm_ok : (Nv.cm dB 64 1 0 (encL (1 + 1) v600)).2 = 0 := by rw [dCm_eq]; exact (Nv.wr_live dB_live _ (by omega)).1
def dCm : Nv.D := (Nv.cm dB 64 1 0 (encL (1 + 1) v600)).1
theorem dCm_inv : Nv.Inv dCm 64 := dB_inv.cm _ _ _
theorem dCm_ud : Nv.Ud dCm := dB_ud.cm 64 1 0 (enc_U _ _ ⟨by omega, by omega⟩)
def wCr : List Int := Nv.crashTo dCm (Nv.dirtyTo dCm.dirty 64) [] (Nv.dirtyTo dCm.dirty 64).length
theorem wCr_len : wCr.length = 512 := Nv.crashTo_len dCm_inv.ok _ _
theorem wCr_U : Im.U wCr := Nv.U_crashTo dCm_ud _ _ _
theorem dCm_a : Sl dCm 0 (encL 1 z8) := dB_sl.keep dB_inv (.inl rfl) 1 _
theorem dCm_b : Sl dCm 1 (encL (1 + 1) v600) := Sl.new (k := 0) dB_inv 1 _ (.inl rfl) dCm_ok
attribute [local irreducible] dCm
theorem wCr_sa : Sl (Nv.load wCr 64) 0 (encL 1 z8) := dCm_a.crash dCm_inv (.inl rfl) [] _
theorem wCr_sb : Sl (Nv.load wCr 64) 1 (encL (1 + 1) v600) := dCm_b.crash dCm_inv (.inr rfl) [] _
attribute [local irreducible] wCr
theorem wCr_a : getsA wCr 64 16 = encL 1 z8 := wCr_sa.gets wCr_len (.inl rfl) (encL_len _ _)
theorem wCr_b : getsA wCr 128 16 = encL (1 + 1) v600 := wCr_sb.gets wCr_len (.inr rfl) (encL_len _ _)
theorem wCr_ch : chK (getsA wCr 64 16) (getsA wCr 128 16) = 1 ∧ chE (getsA wCr 64 16) (getsA wCr 128 16) = 2 ∧ chR (getsA wCr 64 16) (getsA wCr 128 16) = v600 := by
 obtain ⟨h1, h2, h3⟩ := dec_enc 1 z8 (by omega) z8R
 obtain ⟨k1, k2, k3⟩ := dec_enc (1 + 1) v600 (by omega) v600R
 have hk : chK (getsA wCr 64 16) (getsA wCr 128 16) = 1 := by
  rw [wCr_a, wCr_b]
  unfold chK
  rw [if_neg, if_pos k1]
  rintro ⟨_, h | h⟩
  ·exact h k1
  ·rw [h2, k2] at h; omega
 obtain ⟨e1, e2⟩ := ch1 hk
 refine ⟨hk, e1.trans ?_, e2.trans ?_⟩
 ·rw [wCr_b]; exact k2
 ·rw [wCr_b]; exact k3
set_option maxRecDepth 20000 in
theorem lAwake18 (w : World) : Calls Try.prog 57 [].toArray w fun e w' => e = .returned (.bool true) ∧ Only [] w w' := by
 have H := Heap.nil w
 have hSe := fun t gp W hE => tSet t gp 1 0 z8 z8 2 600 W hE rfl rfl
 have c2 : (0 : Int) ≤ 2 ∧ (2 : Int) < 8 ∧ (0 : Int) ≤ 600 ∧ (600 : Int) < 131072 := by omega
 simp only [if_pos c2] at hSe
 rw [show z8.set (2 : Int).toNat 600 = v600 from rfl] at hSe
 have hCm := fun t g W hE hg => tCommit t g dB 64 0 1 z8 v600 W hE dB_inv hg (by omega) (.inl rfl) ⟨by omega, by omega⟩ rfl rfl v600R.i64
 simp only [dCm_ok, if_true] at hCm
 rw [show ((0 : Nat) : Int) = 0 from rfl, show ((1 - 0 : Nat) : Int) = 1 from rfl, ← dCm] at hCm
 have hCr := fun g W hE hg => nCrash g dCm 64 none 0 0 [] W hE dCm_inv.ok hg (by omega) Sees.nil rfl (by simp) (by omega)
 rw [← wCr] at hCr
 have hOp := fun g W hE => tOpenY g (Nv.load wCr 64) W hE wCr_U wCr_ch.1 wCr_ch.2.1 wCr_ch.2.2 (by decide)
 have hEp := fun t gp W hE => tEpoch t gp 2 1 v600 v600 W hE
 have hLa := fun t gp W hE => tLasting t gp 2 1 v600 v600 W hE rfl rfl
 rw [show v600.map (Value.int .i64) = [.int .i64 0, .int .i64 0, .int .i64 600, .int .i64 0, .int .i64 0, .int .i64 0, .int .i64 0, .int .i64 0] from rfl] at hLa
 generalize Nv.load wCr 64 = DX at *
 generalize dCm = DC at *
 refine k_in (N := 48) Try.func57 rfl rfl rfl ?_
 refine k_sg ?_
 refine s_run rfl rfl (rab rfl) ?_
 refine k_nc ?_
 refine k_sg ?_
 refine s_call rfl (lBegun _) (ca58 rfl) ?_
 rintro e W1 ⟨g, t, s, rfl, H', hr, hg⟩
 refine ⟨_, rfl, ?_⟩
 have H := H.more H'; clear H'; simp only [List.cons_append, List.nil_append] at H
 refine s_run rfl rfl (rmt rfl) ?_
 refine s_run rfl rfl (r_ext (v := .pointer _) rfl rfl) ?_
 refine s_run rfl rfl (r_ext (v := .pointer _) rfl rfl) ?_
 refine s_run rfl rfl (r_ext (v := .agg _) rfl rfl) ?_
 refine s_run rfl rfl (r_ext (v := .bool _) rfl rfl) ?_
 refine s_al H rfl inf91 ?_
 intro p3 _ H'; clear H; have H := H'; clear H'
 refine s_run rfl rfl (rap rfl) ?_
 refine s_run rfl rfl (rap rfl) ?_
 refine s_sw H 0 rfl rfl rfl rfl rfl rfl rfl sz91 ?_
 clear H; intro _ H; simp only [jA, jB, jC, jD, jE, jF, jG, jH, jI, jJ, jK, Nat.reduceAdd] at H
 refine s_run rfl rfl (rab rfl) ?_
 refine k_nc ?_
 refine k_seq ?_
 refine k_seq ?_
 have HT := H.drop
 clear H hr
 have H := HT
 clear HT
 generalize dB = DB at *
 refine k_rg ?_
 refine s_run rfl rfl (rmb rfl) ?_
 refine s_run rfl rfl (r_notT rfl) ?_
 refine s_run rfl rfl (rmb rfl) ?_
 refine s_run rfl (g_on 15 (by kernel_rfl) rfl) (rmp rfl) ?_
 refine s_call (g_on 15 (by kernel_rfl) rfl) (hSe t g.p _ (H.one 0 rfl)) (ca93 rfl) ?_
 rintro e W1 ⟨rfl, H'⟩
 refine ⟨_, rfl, ?_⟩
 have H1 := H.at 0 rfl H' (fun i hi => hi); clear H H'; have H := H1; clear H1; simp only [List.set_cons_zero] at H
 refine s_run rfl (g_on 15 (by kernel_rfl) rfl) (r_neqF rfl rfl (by omega)) ?_
 refine s_run rfl rfl (r_pkF (v := .bool _) rfl rfl) ?_
 refine s_run rfl rfl (rmb rfl) ?_
 refine s_run rfl (g_on 20 (by kernel_rfl) rfl) (rmp rfl) ?_
 refine s_call (g_on 20 (by kernel_rfl) rfl) (hCm t g _ H.ents hg) (ca94 rfl) ?_
 rintro e W1 ⟨rfl, H'⟩
 refine ⟨_, rfl, ?_⟩
 have H1 := H.whole H'; clear H H'; have H := H1; clear H1
 refine s_run rfl (g_on 20 (by kernel_rfl) rfl) (r_neqF rfl rfl (by omega)) ?_
 refine s_run rfl rfl (r_pkF (v := .bool _) rfl rfl) ?_
 refine k_nc ?_
 refine k_f rfl ?_
 refine k_skip ?_
 refine c_norm ?_
 refine k_sg ?_
 refine s_run rfl rfl (rmp rfl) ?_
 refine s_call rfl (hCr g _ (H.grp_ents 1 rfl) hg) (ca37 rfl) ?_
 rintro e W1 ⟨g2, rfl, hg2, H'⟩
 refine ⟨_, rfl, ?_⟩
 have H1 := H.more (A := [grp _]) (grp_heap H'); clear H H'; have H := H1; clear H1; simp only [List.cons_append, List.nil_append] at H
 refine s_call rfl (hOp g2 _ (H.grp_ents 0 rfl)) (ca61 rfl) ?_
 rintro e W1 ⟨t2, rfl, H'⟩
 refine ⟨_, rfl, ?_⟩
 have H1 := H.more H'; clear H H'; have H := H1; clear H1; simp only [List.cons_append, List.nil_append] at H
 refine s_run rfl rfl (rmt rfl) ?_
 refine s_run rfl rfl (r_ext (v := .pointer _) rfl rfl) ?_
 refine s_run rfl rfl (r_ext (v := .int _ _) rfl rfl) ?_
 refine s_run rfl rfl (rap rfl) ?_
 refine s_run rfl rfl (rai rfl) ?_
 refine k_nc ?_
 refine k_sg ?_
 refine s_run rfl rfl (rmi rfl) ?_
 refine s_run rfl rfl (r_eqlT rfl rfl (by omega)) ?_
 refine s_run rfl rfl (rmb rfl) ?_
 refine s_run rfl (g_on 33 (by kernel_rfl) rfl) (rmp rfl) ?_
 refine s_run rfl (g_on 33 (by kernel_rfl) rfl) (r_ptnnilT rfl rfl Try.underlying86) ?_
 refine s_run rfl rfl (r_pkT (v := .bool _) rfl rfl) ?_
 refine s_run rfl rfl (rmb rfl) ?_
 refine s_run rfl (g_on 37 (by kernel_rfl) rfl) (rmp rfl) ?_
 refine s_call (g_on 37 (by kernel_rfl) rfl) (hEp t2 g2.p _ (H.one 0 rfl)) (ca95 rfl) ?_
 rintro e W1 ⟨rfl, H'⟩
 refine ⟨_, rfl, ?_⟩
 have H := H.same H'; clear H'
 refine s_run rfl (g_on 37 (by kernel_rfl) rfl) (r_eqlT rfl rfl (by omega)) ?_
 refine s_run rfl rfl (r_pkT (v := .bool _) rfl rfl) ?_
 refine s_run rfl rfl (rmb rfl) ?_
 refine s_run rfl (g_on 42 (by kernel_rfl) rfl) (rmp rfl) ?_
 refine s_call (g_on 42 (by kernel_rfl) rfl) (hLa t2 g2.p _ (H.one 0 rfl)) (ca96 rfl) ?_
 rintro e W1 ⟨rfl, H'⟩
 refine ⟨_, rfl, ?_⟩
 have H := H.same H'; clear H'
 refine s_run rfl (g_on 42 (by kernel_rfl) rfl) (r_ixv (fun W => ix8_2 _ _ _ _ _ _ _ _ W) rfl rfl) ?_
 refine s_run rfl (g_on 42 (by kernel_rfl) rfl) (r_eqlT rfl rfl (by omega)) ?_
 refine s_run rfl rfl (r_pkT (v := .bool _) rfl rfl) ?_
 refine s_run rfl rfl (rab rfl) ?_
 refine k_nc ?_
 refine k_ret ?_
 refine fin1r (v := .bool _) rfl rfl ?_
 exact ⟨rfl, H.only⟩
end Go.Proofs.Ytmekhdclnhhhbaa
end

section
namespace Go.Proofs.Ytmekhdclnhhhbaa
open Go.RowKit
section
variable {P : Program} {n : Nat} {f : Nat → Value} {x y : Operand} {t t2 ty : TypeId} {pos : String} {af : Array Edge} {g : Option (Nat × Bool)} {dst : Option Tmp} {W : World}
theorem r_beqT {a b : Bool} (hx : ev n f x = .bool a) (hy : ev n f y = .bool b) (h : a = b) (ht : P.underlying t = some .bool) : (execOp (ev n f) ⟨dst, .binOp .eql t x y t2, ty, pos, af, g⟩).run P W = .ok (.value (.bool true)) W := by
 subst h
 have h : ∀ d : Nat, (Op.equalIn (d + 1) t (.bool a) (.bool a)).run P W = .ok true W := fun d => by
  simp [Op.equalIn, run_underlying ht]
 have h2 : (binOp .eql t (.bool a) (.bool a)).run P W = .ok (.bool true) W := by
  simp only [binOp]
  simp [Op.equal, Op.maxDepth, h 9999]
 have h3 : (eqGuard .eql t x y (.bool a) (.bool a)).run P W = .ok () W := by simp [eqGuard]
 simp only [execOp, hx, hy, Sem.run_bind, h3, h2, Result.andThen_ok]; rfl
end
end Go.Proofs.Ytmekhdclnhhhbaa
end

section
namespace Go.Proofs.Ytmekhdclnhhhbaa
open Go.RowKit
section
variable {P : Program} {n : Nat} {f : Nat → Value} {W : World} {v : Value} {dst : Option Tmp} {t e t2 ty : TypeId} {pos : String} {af : Array Edge} {g : Option (Nat × Bool)} {x y : Operand} {k : IntKind}
theorem r_arrE {xs ys : List Int} {l : Nat} {kk : IntKind} (hx : ev n f x = .agg (xs.map (Value.int k)).toArray) (hy : ev n f y = .agg (ys.map (Value.int k)).toArray) (lx : xs.length = l) (ly : ys.length = l) (ht : P.underlying t = some (.array l e)) (he : P.underlying e = some (.int kk)) (hi : ∃ z s b, Inf P e z s b) (hc : P.cellsOf e = 1) (hg : P.eqGuardType P.depth t = false) {q : Bool} (hq : eqB xs ys = q) :
  (execOp (ev n f) ⟨dst, .binOp .eql t x y t2, ty, pos, af, g⟩).run P W = .ok (.value (.bool q)) W := by
 subst hq
 obtain ⟨z, s, b, hi⟩ := hi
 obtain ⟨i, hi0, _⟩ := hi.ex
 have h : (Op.equalIn (9998 + 2) t (.agg (xs.map (Value.int k)).toArray) (.agg (ys.map (Value.int k)).toArray)).run P W = .ok (eqB xs ys) W := run_equalIn_ints W 9998 ht he hi0 hc xs ys lx ly
 have h2 : (binOp .eql t (.agg (xs.map (Value.int k)).toArray) (.agg (ys.map (Value.int k)).toArray)).run P W = .ok (.bool (eqB xs ys)) W := by
  simp only [binOp]
  simp only [Op.equal, Op.maxDepth, Sem.run_bind]
  rw [show (10000 : Nat) = 9998 + 2 from rfl, h]
  rfl
 have hp : ∀ W, (program : Sem Program).run P W = .ok P W := fun _ => rfl
 have h3 : (eqGuard .eql t x y (.agg (xs.map (Value.int k)).toArray) (.agg (ys.map (Value.int k)).toArray)).run P W = .ok () W := by
  simp [eqGuard, hp, hg]
 simp only [execOp, hx, hy, Sem.run_bind, h3, h2, Result.andThen_ok]
 rfl
end
theorem lShows (t gp m : Nat) (s : RefS) (d : Nv.D) (E k k2 : Int) (R V : List Int) (w : World) (hE : Ents [blk t (tabC gp E R k V) 149] w) (hR : R.length = 8) (hV : V.length = 8) :
  Calls Try.prog 60 [ptr t, .agg (refTab s d m E R k2 V).toArray].toArray w fun e w' => e = .returned (.bool true) ∧ Only [] w w' := by
 have HR := Heap.start hE
 have H := Heap.nil w
 have hWk := fun W hE => tWorking t gp E k R V W hE hR hV
 have hLa := fun W hE => tLasting t gp E k R V W hE hR hV
 have hEp := fun W hE => tEpoch t gp E k R V W hE
 have hCh := fun W hE => tChanged t gp E k R V W hE hR hV
 refine k_in (N := 72) Try.func60 rfl rfl rfl ?_
 refine k_sg ?_
 refine s_box H rfl rfl ?_
 intro p3 _ H'; clear H; have H := H'; clear H'
 refine s_run rfl rfl (rab rfl) ?_
 refine k_nc ?_
 refine k_seq ?_
 refine k_sg ?_
 refine s_run rfl rfl (rai rfl) ?_
 refine k_nc ?_
 refine k_b ?_
 refine k_loop (fun z f W => ∃ q : Int, -1 ≤ q ∧ q ≤ 9 ∧ z = (9 - q).toNat ∧ f 0 = ptr t ∧ f 3 = ptr p3 ∧ f 5 = .int .i64 q ∧ Heap w [] [blk p3 (refTab s d m E R k2 V) 91] W) 10 ⟨-1, by omega, by omega, rfl, rfl, rfl, rfl, H⟩ ?_
 clear H
 rintro z f W ⟨q, hq0, hq9, rfl, f0, f3, f5, H⟩
 obtain ⟨f, rfl⟩ := live3 f0 f3 f5
 clear f0 f3 f5
 by_cases h9 : q < 9
 ·have hGet := fun W hE => tGet t gp E k R V q W hE hR hV
  by_cases hin : 0 ≤ q ∧ q < 8
  ·simp only [if_pos hin] at hGet
   obtain ⟨i, rfl⟩ := Int.eq_ofNat_of_zero_le hin.1
   have hv := refTab_get (s := s) (d := d) (m := m) (E := E) (k := k2) hR i (V := V) (by omega)
   rw [Int.toNat_natCast] at hGet
   refine k_seq ?_
   refine k_sg ?_
   refine s_run rfl rfl (rmi rfl) ?_
   refine s_run rfl rfl (r_lssT rfl rfl (by omega)) ?_
   refine k_nc ?_
   refine k_t rfl ?_
   refine k_skip ?_
   refine c_norm ?_
   refine k_seq ?_
   refine k_b ?_
   refine k_sg ?_
   refine s_run rfl rfl (rmp rfl) ?_
   refine s_run rfl rfl (rmi rfl) ?_
   refine s_call rfl (hGet _ (Heap.one (HR.same H.only) 0 rfl)) (ca102 rfl) ?_
   rintro e W1 ⟨rfl, H'⟩
   refine ⟨_, rfl, ?_⟩
   have H := H.same H'; clear H'
   refine s_run rfl rfl (rmt rfl) ?_
   refine s_run rfl rfl (r_ext (v := .int _ _) rfl rfl) ?_
   refine s_run rfl rfl (r_ext (v := .int _ _) rfl rfl) ?_
   refine s_run rfl rfl (rai rfl) ?_
   refine s_run rfl rfl (rai rfl) ?_
   refine k_nc ?_
   refine k_seq ?_
   refine k_sg ?_
   refine s_run rfl rfl (rmi rfl) ?_
   refine s_run rfl rfl (r_lssF rfl rfl (by omega)) ?_
   refine s_run rfl rfl (rmb rfl) ?_
   refine s_run rfl (g_on 20 (by kernel_rfl) rfl) (rmi rfl) ?_
   refine s_run rfl (g_on 20 (by kernel_rfl) rfl) (r_gtrF rfl rfl (by omega)) ?_
   refine s_run rfl rfl (r_pkF (v := .bool _) rfl rfl) ?_
   refine k_nc ?_
   refine k_f rfl ?_
   refine k_skip ?_
   refine c_norm ?_
   refine k_sg ?_
   refine s_run rfl rfl (rmi rfl) ?_
   refine s_run rfl rfl (rmi rfl) ?_
   refine s_run rfl rfl (r_fa0 rfl fo91_3) ?_
   refine s_run rfl rfl (r_ia1 rfl rfl rfl (by omega) Try.underlying87 sz3) ?_
   refine s_run rfl rfl (r_lo H 0 rfl rfl hv ag3) ?_
   refine s_run rfl rfl (r_neqF rfl rfl (by omega)) ?_
   refine s_run rfl rfl (rmb rfl) ?_
   refine s_run rfl (g_on 36 (by kernel_rfl) rfl) (rmi rfl) ?_
   refine s_run rfl (g_on 36 (by kernel_rfl) rfl) (r_neqF rfl rfl (by omega)) ?_
   refine s_run rfl rfl (r_pkF (v := .bool _) rfl rfl) ?_
   refine k_nc ?_
   refine k_f rfl ?_
   refine k_skip ?_
   refine b_norm ?_
   refine c_norm ?_
   refine k_rg ?_
   refine s_run rfl rfl (rmi rfl) ?_
   refine s_run rfl rfl (r_add rfl rfl (wI (by omega))) ?_
   refine s_run rfl rfl (rai rfl) ?_
   refine k_nil ?_
   refine c_round ?_
   refine ⟨_, _, ?_, rfl, (i : Int) + 1, by omega, by omega, rfl, rfl, rfl, rfl, H⟩
   omega
  ·simp only [if_neg hin] at hGet
   by_cases hneg : q < 0
   ·refine k_seq ?_
    refine k_sg ?_
    refine s_run rfl rfl (rmi rfl) ?_
    refine s_run rfl rfl (r_lssT rfl rfl (by omega)) ?_
    refine k_nc ?_
    refine k_t rfl ?_
    refine k_skip ?_
    refine c_norm ?_
    refine k_seq ?_
    refine k_b ?_
    refine k_sg ?_
    refine s_run rfl rfl (rmp rfl) ?_
    refine s_run rfl rfl (rmi rfl) ?_
    refine s_call rfl (hGet _ (Heap.one (HR.same H.only) 0 rfl)) (ca102 rfl) ?_
    rintro e W1 ⟨rfl, H'⟩
    refine ⟨_, rfl, ?_⟩
    have H := H.same H'; clear H'
    refine s_run rfl rfl (rmt rfl) ?_
    refine s_run rfl rfl (r_ext (v := .int _ _) rfl rfl) ?_
    refine s_run rfl rfl (r_ext (v := .int _ _) rfl rfl) ?_
    refine s_run rfl rfl (rai rfl) ?_
    refine s_run rfl rfl (rai rfl) ?_
    refine k_nc ?_
    refine k_seq ?_
    refine k_sg ?_
    refine s_run rfl rfl (rmi rfl) ?_
    refine s_run rfl rfl (r_lssT rfl rfl (by omega)) ?_
    refine s_run rfl rfl (rmb rfl) ?_
    refine s_off rfl (g_off 20 (by kernel_rfl) rfl rfl) ?_
    refine s_off rfl (g_off 20 (by kernel_rfl) rfl rfl) ?_
    refine s_run rfl rfl (r_pkT (v := .bool _) rfl rfl) ?_
    refine k_nc ?_
    refine k_t rfl ?_
    refine k_seq ?_
    refine k_sg ?_
    refine s_run rfl rfl (rmi rfl) ?_
    refine s_run rfl rfl (r_neqF rfl rfl (by omega)) ?_
    refine s_run rfl rfl (rmb rfl) ?_
    refine s_run rfl (g_on 26 (by kernel_rfl) rfl) (rmi rfl) ?_
    refine s_run rfl (g_on 26 (by kernel_rfl) rfl) (r_neqF rfl rfl (by omega)) ?_
    refine s_run rfl rfl (r_pkF (v := .bool _) rfl rfl) ?_
    refine k_nc ?_
    refine k_f rfl ?_
    refine k_skip ?_
    refine c_norm ?_
    refine k_exit ?_
    refine c_exit ?_
    refine b_hit ?_
    refine c_norm ?_
    refine k_rg ?_
    refine s_run rfl rfl (rmi rfl) ?_
    refine s_run rfl rfl (r_add rfl rfl (wI (by omega))) ?_
    refine s_run rfl rfl (rai rfl) ?_
    refine k_nil ?_
    refine c_round ?_
    refine ⟨_, _, ?_, rfl, q + 1, by omega, by omega, rfl, rfl, rfl, rfl, H⟩
    omega
   ·refine k_seq ?_
    refine k_sg ?_
    refine s_run rfl rfl (rmi rfl) ?_
    refine s_run rfl rfl (r_lssT rfl rfl (by omega)) ?_
    refine k_nc ?_
    refine k_t rfl ?_
    refine k_skip ?_
    refine c_norm ?_
    refine k_seq ?_
    refine k_b ?_
    refine k_sg ?_
    refine s_run rfl rfl (rmp rfl) ?_
    refine s_run rfl rfl (rmi rfl) ?_
    refine s_call rfl (hGet _ (Heap.one (HR.same H.only) 0 rfl)) (ca102 rfl) ?_
    rintro e W1 ⟨rfl, H'⟩
    refine ⟨_, rfl, ?_⟩
    have H := H.same H'; clear H'
    refine s_run rfl rfl (rmt rfl) ?_
    refine s_run rfl rfl (r_ext (v := .int _ _) rfl rfl) ?_
    refine s_run rfl rfl (r_ext (v := .int _ _) rfl rfl) ?_
    refine s_run rfl rfl (rai rfl) ?_
    refine s_run rfl rfl (rai rfl) ?_
    refine k_nc ?_
    refine k_seq ?_
    refine k_sg ?_
    refine s_run rfl rfl (rmi rfl) ?_
    refine s_run rfl rfl (r_lssF rfl rfl (by omega)) ?_
    refine s_run rfl rfl (rmb rfl) ?_
    refine s_run rfl (g_on 20 (by kernel_rfl) rfl) (rmi rfl) ?_
    refine s_run rfl (g_on 20 (by kernel_rfl) rfl) (r_gtrT rfl rfl (by omega)) ?_
    refine s_run rfl rfl (r_pkF (v := .bool _) rfl rfl) ?_
    refine k_nc ?_
    refine k_t rfl ?_
    refine k_seq ?_
    refine k_sg ?_
    refine s_run rfl rfl (rmi rfl) ?_
    refine s_run rfl rfl (r_neqF rfl rfl (by omega)) ?_
    refine s_run rfl rfl (rmb rfl) ?_
    refine s_run rfl (g_on 26 (by kernel_rfl) rfl) (rmi rfl) ?_
    refine s_run rfl (g_on 26 (by kernel_rfl) rfl) (r_neqF rfl rfl (by omega)) ?_
    refine s_run rfl rfl (r_pkF (v := .bool _) rfl rfl) ?_
    refine k_nc ?_
    refine k_f rfl ?_
    refine k_skip ?_
    refine c_norm ?_
    refine k_exit ?_
    refine c_exit ?_
    refine b_hit ?_
    refine c_norm ?_
    refine k_rg ?_
    refine s_run rfl rfl (rmi rfl) ?_
    refine s_run rfl rfl (r_add rfl rfl (wI (by omega))) ?_
    refine s_run rfl rfl (rai rfl) ?_
    refine k_nil ?_
    refine c_round ?_
    refine ⟨_, _, ?_, rfl, q + 1, by omega, by omega, rfl, rfl, rfl, rfl, H⟩
    omega
 ·obtain ⟨r0, r1, r2, r3, r4, r5, r6, r7, rfl⟩ := list8 hR
  obtain ⟨v0, v1, v2, v3, v4, v5, v6, v7, rfl⟩ := list8 hV
  refine k_seq ?_
  refine k_sg ?_
  refine s_run rfl rfl (rmi rfl) ?_
  refine s_run rfl rfl (r_lssF rfl rfl (by omega)) ?_
  refine k_nc ?_
  refine k_f rfl ?_
  refine k_exit ?_
  refine c_exit ?_
  refine c_exit ?_
  refine b_hit ?_
  refine c_norm ?_
  refine k_seq ?_
  refine k_trK mixed H ?_; have H' := H.drew; clear H; have H := H'; clear H'
  refine tqh 0 rfl rfl rfl (fun _ hS => hS.elim fun _ H => r_mv (v := .pointer _) rfl) ⟨_, H⟩ ?_
  refine tqh 2 rfl rfl rfl (fun _ hS => hS.elim fun _ H => r_fa0 rfl fo91_3) ⟨_, H⟩ ?_
  refine tqh 3 rfl rfl rfl (fun _ hS => hS.elim fun _ H => r_lp H 0 (vs := [.int .i64 v0, .int .i64 v1, .int .i64 v2, .int .i64 v3, .int .i64 v4, .int .i64 v5, .int .i64 v6, .int .i64 v7]) rfl rfl rfl rfl ag87 sz87) ⟨_, H⟩ ?_
  refine t_up1 1 (by kernel_rfl) ?_
  refine up_mk rfl ?_
  refine s_call rfl (hWk _ (Heap.one (HR.same H.only) 0 rfl)) (ca103 rfl) ?_
  rintro e W1 ⟨rfl, H'⟩
  refine ⟨_, rfl, ?_⟩
  have H := H.same H'; clear H'
  refine k_nil ?_
  refine t_on ⟨_, H⟩ ?_
  refine tqh 4 rfl rfl rfl (fun _ hS => hS.elim fun _ H => r_arrE (q := true) (xs := [v0, v1, v2, v3, v4, v5, v6, v7]) (ys := [v0, v1, v2, v3, v4, v5, v6, v7]) rfl rfl rfl rfl Try.underlying87 Try.underlying3 ⟨_, _, _, inf3⟩ (by kernel_rfl) (by kernel_rfl) (eqB_yes _ _ rfl)) ⟨_, H⟩ ?_
  refine tqh 5 rfl rfl rfl (fun _ hS => hS.elim fun _ H => r_mv (v := .bool _) rfl) ⟨_, H⟩ ?_
  refine tqh 6 rfl rfl (g_on 45 (by kernel_rfl) rfl) (fun _ hS => hS.elim fun _ H => r_mv (v := .pointer _) rfl) ⟨_, H⟩ ?_
  refine tqh 8 rfl rfl (g_on 45 (by kernel_rfl) rfl) (fun _ hS => hS.elim fun _ H => r_fa0 rfl fo91_1) ⟨_, H⟩ ?_
  refine tqh 9 rfl rfl (g_on 45 (by kernel_rfl) rfl) (fun _ hS => hS.elim fun _ H => r_fa rfl fo89_1) ⟨_, H⟩ ?_
  refine tqh 10 rfl rfl (g_on 45 (by kernel_rfl) rfl) (fun _ hS => hS.elim fun _ H => r_lp H 0 (vs := [.int .i64 r0, .int .i64 r1, .int .i64 r2, .int .i64 r3, .int .i64 r4, .int .i64 r5, .int .i64 r6, .int .i64 r7]) rfl rfl rfl rfl ag87 sz87) ⟨_, H⟩ ?_
  refine t_up1 7 (by kernel_rfl) ?_
  refine up_mk rfl ?_
  refine s_call (g_on 45 (by kernel_rfl) rfl) (hLa _ (Heap.one (HR.same H.only) 0 rfl)) (ca96 rfl) ?_
  rintro e W1 ⟨rfl, H'⟩
  refine ⟨_, rfl, ?_⟩
  have H := H.same H'; clear H'
  refine k_nil ?_
  refine t_on ⟨_, H⟩ ?_
  refine tqh 11 rfl rfl (g_on 45 (by kernel_rfl) rfl) (fun _ hS => hS.elim fun _ H => r_arrE (q := true) (xs := [r0, r1, r2, r3, r4, r5, r6, r7]) (ys := [r0, r1, r2, r3, r4, r5, r6, r7]) rfl rfl rfl rfl Try.underlying87 Try.underlying3 ⟨_, _, _, inf3⟩ (by kernel_rfl) (by kernel_rfl) (eqB_yes _ _ rfl)) ⟨_, H⟩ ?_
  refine tqh 12 rfl rfl rfl (fun _ hS => hS.elim fun _ H => r_pkT (v := .bool _) rfl rfl) ⟨_, H⟩ ?_
  refine tqh 13 rfl rfl rfl (fun _ hS => hS.elim fun _ H => r_mv (v := .bool _) rfl) ⟨_, H⟩ ?_
  refine tqh 14 rfl rfl (g_on 53 (by kernel_rfl) rfl) (fun _ hS => hS.elim fun _ H => r_mv (v := .pointer _) rfl) ⟨_, H⟩ ?_
  refine tqh 16 rfl rfl (g_on 53 (by kernel_rfl) rfl) (fun _ hS => hS.elim fun _ H => r_fa0 rfl fo91_1) ⟨_, H⟩ ?_
  refine tqh 17 rfl rfl (g_on 53 (by kernel_rfl) rfl) (fun _ hS => hS.elim fun _ H => r_fa rfl fo89_0) ⟨_, H⟩ ?_
  refine tqh 18 rfl rfl (g_on 53 (by kernel_rfl) rfl) (fun _ hS => hS.elim fun _ H => r_lo H 0 rfl rfl rfl ag22) ⟨_, H⟩ ?_
  refine t_up1 15 (by kernel_rfl) ?_
  refine up_mk rfl ?_
  refine s_call (g_on 53 (by kernel_rfl) rfl) (hEp _ (Heap.one (HR.same H.only) 0 rfl)) (ca95 rfl) ?_
  rintro e W1 ⟨rfl, H'⟩
  refine ⟨_, rfl, ?_⟩
  have H := H.same H'; clear H'
  refine k_nil ?_
  refine t_on ⟨_, H⟩ ?_
  refine tqh 19 rfl rfl (g_on 53 (by kernel_rfl) rfl) (fun _ hS => hS.elim fun _ H => r_eqlT rfl rfl (by omega)) ⟨_, H⟩ ?_
  refine tqh 20 rfl rfl rfl (fun _ hS => hS.elim fun _ H => r_pkT (v := .bool _) rfl rfl) ⟨_, H⟩ ?_
  refine tqh 21 rfl rfl rfl (fun _ hS => hS.elim fun _ H => r_mv (v := .bool _) rfl) ⟨_, H⟩ ?_
  refine tqh 22 rfl rfl (g_on 61 (by kernel_rfl) rfl) (fun _ hS => hS.elim fun _ H => r_mv (v := .pointer _) rfl) ⟨_, H⟩ ?_
  refine tqh 24 rfl rfl (g_on 61 (by kernel_rfl) rfl) (fun _ hS => hS.elim fun _ H => r_fa0 rfl fo91_3) ⟨_, H⟩ ?_
  refine tqh 25 rfl rfl (g_on 61 (by kernel_rfl) rfl) (fun _ hS => hS.elim fun _ H => r_lp H 0 (vs := [.int .i64 v0, .int .i64 v1, .int .i64 v2, .int .i64 v3, .int .i64 v4, .int .i64 v5, .int .i64 v6, .int .i64 v7]) rfl rfl rfl rfl ag87 sz87) ⟨_, H⟩ ?_
  refine tqh 26 rfl rfl (g_on 61 (by kernel_rfl) rfl) (fun _ hS => hS.elim fun _ H => r_fa0 rfl fo91_1) ⟨_, H⟩ ?_
  refine tqh 27 rfl rfl (g_on 61 (by kernel_rfl) rfl) (fun _ hS => hS.elim fun _ H => r_fa rfl fo89_1) ⟨_, H⟩ ?_
  refine tqh 28 rfl rfl (g_on 61 (by kernel_rfl) rfl) (fun _ hS => hS.elim fun _ H => r_lp H 0 (vs := [.int .i64 r0, .int .i64 r1, .int .i64 r2, .int .i64 r3, .int .i64 r4, .int .i64 r5, .int .i64 r6, .int .i64 r7]) rfl rfl rfl rfl ag87 sz87) ⟨_, H⟩ ?_
  refine tqh 29 rfl rfl (g_on 61 (by kernel_rfl) rfl) (fun _ hS => hS.elim fun _ H => r_arrB (q := !eqB [v0, v1, v2, v3, v4, v5, v6, v7] [r0, r1, r2, r3, r4, r5, r6, r7]) (xs := [v0, v1, v2, v3, v4, v5, v6, v7]) (ys := [r0, r1, r2, r3, r4, r5, r6, r7]) rfl rfl rfl rfl Try.underlying87 Try.underlying3 ⟨_, _, _, inf3⟩ (by kernel_rfl) (by kernel_rfl) rfl) ⟨_, H⟩ ?_
  refine t_up1 23 (by kernel_rfl) ?_
  refine up_mk rfl ?_
  refine s_call (g_on 61 (by kernel_rfl) rfl) (hCh _ (Heap.one (HR.same H.only) 0 rfl)) (ca104 rfl) ?_
  rintro e W1 ⟨rfl, H'⟩
  refine ⟨_, rfl, ?_⟩
  have H := H.same H'; clear H'
  refine k_nil ?_
  refine t_on ⟨_, H⟩ ?_
  refine tqh 30 rfl rfl (g_on 61 (by kernel_rfl) rfl) (fun _ hS => hS.elim fun _ H => r_beqT rfl rfl rfl Try.underlying4) ⟨_, H⟩ ?_
  refine tqh 31 rfl rfl rfl (fun _ hS => hS.elim fun _ H => r_pkT (v := .bool _) rfl rfl) ⟨_, H⟩ ?_
  refine tqh 32 rfl rfl rfl (fun _ hS => hS.elim fun _ H => r_as (v := .bool _) rfl) ⟨_, H⟩ ?_
  refine t_done (by kernel_rfl) ?_
  refine c_norm ?_
  refine k_ret ?_
  refine fin1r (v := .bool _) rfl rfl ?_
  exact ⟨rfl, H.only⟩
end Go.Proofs.Ytmekhdclnhhhbaa
end

section
namespace Go.Proofs.Ytmekhdclnhhhbaa
open Go.RowKit
section
variable (g : Geo) (t : Nat) (s : RefS) (d : Nv.D) (E : Int) (R : List Int) (k : Nat) (V : List Int) (o a v : Int) (A : Option Addr) (nc cc : Nat) (cs : List Int) (X : List Nat) (w : World)
end
end Go.Proofs.Ytmekhdclnhhhbaa
end

section
namespace Go.Proofs.Ytmekhdclnhhhbaa
open Go.RowKit
section
variable (g : Geo) (t : Nat) (s : RefS) (d : Nv.D) (E : Int) (R : List Int) (k : Nat) (V : List Int) (o a v : Int) (A : Option Addr) (nc cc : Nat) (cs : List Int) (X : List Nat) (w : World)
end
end Go.Proofs.Ytmekhdclnhhhbaa
end

section
namespace Go.Proofs.Ytmekhdclnhhhbaa
open Go.RowKit
section
variable (g : Geo) (t : Nat) (s : RefS) (d : Nv.D) (E : Int) (R : List Int) (k : Nat) (V : List Int) (o a v : Int) (A : Option Addr) (nc cc : Nat) (cs : List Int) (X : List Nat) (w : World)
end
end Go.Proofs.Ytmekhdclnhhhbaa
end

section
namespace Go.Proofs.Ytmekhdclnhhhbaa
/-- a call, as the script holds it -/
structure OpR where
 o : Int
 a : Int
 v : Int
 A : Option Addr
 nc : Nat
 cc : Nat
 cs : List Int
def OpR.cells (u : OpR) : List Value := [.int .i64 u.o, .int .i64 u.a, .int .i64 u.v, .slice u.A u.nc u.cc]
section
open Go.ChangeShapes Go.WideShapes Go.Deep
variable {H : Type} {enc : TypeId × Value → H} {w : World} {base : Nat} {spare : Nat → Bool} {held : Bool}
end
open Go.RowKit
open Go.RowKit
end Go.Proofs.Ytmekhdclnhhhbaa
end

section
namespace Go.Proofs.Ytmekhdclnhhhbaa
open Go.RowKit
section
variable {P : Program} {n : Nat} {f : Nat → Value} {W w0 : World} {dst : Option Tmp} {ty : TypeId} {pos : String} {af : Array Edge} {g : Option (Nat × Bool)} {x y : Operand} {t t2 e : TypeId} {v : Value} {k k2 : IntKind} {a b : Int}
theorem r_slq {p o l c o2 l2 c2 : Nat} {lo : Operand} {i : Nat} (hx : ev n f x = .slice (some ⟨p, o, none⟩) l c) (hl : ev n f lo = .int k a) (ha : a = (i : Int)) (hi : i ≤ l) (ho : (if c = i then (⟨p, o, none⟩ : Addr) else ⟨p, o + i * 1, none⟩) = ⟨p, o2, none⟩) (hl2 : l - i = l2) (hc2 : c - i = c2) (h : P.underlying t = some (.slice e)) (hm : ∀ W, (Go.sizeOf e).run P W = .ok 1 W) :
  (execOp (ev n f) ⟨dst, .slice t x (some lo) none none, ty, pos, af, g⟩).run P W = .ok (.value (.slice (some ⟨p, o2, none⟩) l2 c2)) W := by
 rw [r_slo hx hl ha hi h hm, ho, hl2, hc2]
end
theorem tOpenN (g : Geo) (d : Nv.D) (w : World) (hE : Ents (devL g d) w) (hU : Im.U d.cache) (hK : chK (getsA d.cache 64 16) (getsA d.cache 128 16) = -1) :
  Calls Try.prog 61 [ptr g.p].toArray w fun e w' => e = .returned (.tuple #[.pointer none, .int .i64 23]) ∧ Only [] w w' := by
 refine (tOpen g d w hE hU).mono ?_
 rintro e w' (⟨_, h⟩ | ⟨h, _⟩)
 ·exact h
 ·exact absurd hK h
theorem rtOpenN (s : RefS) (d : Nv.D) (m : Nat) (F : List Nat) (w : World) (hr : RefOk w F s d m) (hm : m ≤ 100000) (hU : Im.U d.cache) (hK : chK (getsA d.cache 64 16) (getsA d.cache 128 16) = -1) :
  Calls Try.prog 62 [.agg (refCells s d m).toArray].toArray w fun e w' => e = .returned (.tuple #[.agg nilTab.toArray, .int .i64 23]) ∧ Only [] w w' := by
 refine (rtOpen s d m F w hr hm hU).mono ?_
 rintro e w' (⟨_, h⟩ | ⟨h, _⟩)
 ·exact h
 ·exact absurd hK h
def wds (a b : List Int) : List Int := ((List.replicate 512 (0 : Int)).take 64 ++ (a ++ (List.replicate 512 (0 : Int)).drop (64 + 16))).take 128 ++ (b ++ ((List.replicate 512 (0 : Int)).take 64 ++ (a ++ (List.replicate 512 (0 : Int)).drop (64 + 16))).drop (128 + 16))
theorem wds_len {a b : List Int} (ha : a.length = 16) (hb : b.length = 16) : (wds a b).length = 512 := by
 unfold wds
 simp only [List.length_append, List.length_take, List.length_drop, List.length_replicate, ha, hb]
 decide
theorem wds_U {a b : List Int} (ha : Im.U a) (hb : Im.U b) : Im.U (wds a b) := by
 have h0 : Im.U (List.replicate 512 (0 : Int)) := fun x hx => by rw [(List.mem_replicate.1 hx).2]; decide
 have happ : ∀ {l m : List Int}, Im.U l → Im.U m → Im.U (l ++ m) := fun hl hm x hx => (List.mem_append.1 hx).elim (hl x) (hm x)
 have h1 := happ (h0.take 64) (happ ha (h0.drop (64 + 16)))
 exact happ (h1.take 128) (happ hb (h1.drop (128 + 16)))
set_option maxRecDepth 20000 in
theorem walk_RootsOpens (z0 z1 : List Int) (w : World) (hz0 : z0.length = 16) (wz0 : Ints .u64 z0) (hz1 : z1.length = 16) (wz1 : Ints .u64 z1) :
  Calls Try.prog 14 #[.agg (z0.map (Value.int .u64)).toArray, .agg (z1.map (Value.int .u64)).toArray] w fun e w' => e = .returned (.bool true) ∧ Below w.heap.size w w' := by
 have H := Heap.nil w
 have hlen := wds_len hz0 hz1
 have hU : Im.U (wds z0 z1) := wds_U (fun x hx => wfU wz0 hx) (fun x hx => wfU wz1 hx)
 have e1 : (512 + 7) / 8 = 64 := rfl
 have e2 : 8 * 64 - 512 = 0 := rfl
 have hL := fun b W hz => nLoad (some ⟨b, 0, none⟩) 512 512 (wds z0 z1) W hz hlen (by omega)
 have hR := fun b G W hz hF => rLoad (some ⟨b, 0, none⟩) 512 512 (wds z0 z1) G W hz hlen (by omega) hF
 simp only [e1, e2, List.replicate_zero, List.append_nil] at hL hR
 refine k_in (N := 53) Try.func14 rfl rfl rfl ?_
 refine k_sg ?_
 refine s_box H rfl rfl ?_
 intro p2 _ H'; clear H; have H := H'; clear H'
 refine s_box H rfl rfl ?_
 intro p3 _ H'; clear H; have H := H'; clear H'
 refine s_run rfl rfl (rab rfl) ?_
 refine k_nc ?_
 refine k_seq ?_
 refine k_sg ?_
 refine s_call rfl (lAwake18 _) (ca57 rfl) ?_
 rintro e W1 ⟨rfl, H'⟩
 refine ⟨_, rfl, ?_⟩
 have H := H.same H'; clear H'
 refine s_run rfl rfl (r_notT rfl) ?_
 refine k_nc ?_
 refine k_f rfl ?_
 refine k_skip ?_
 refine c_norm ?_
 refine k_sg ?_
 refine s_mk (Value.int .u64) 0 (m := 512) H rfl rfl rfl (by omega) (by omega) (by omega) Try.underlying25 inf22 rfl ?_
 intro bk _ H'; clear H; have H := H'; clear H'
 refine s_run rfl rfl (ras rfl) ?_
 refine k_nc ?_
 refine k_seq ?_
 refine k_qt 3 mixed (by kernel_rfl) H rfl rfl ?_
 refine q_run rfl rfl (fun _ H => r_mv (v := .slice _ _ _) rfl) ?_
 refine q_run rfl rfl (fun _ H => r_slq (i := 64) (o2 := 64) (l2 := 448) (c2 := 448) rfl rfl rfl (by omega) rfl rfl rfl Try.underlying25 sz22) ?_
 refine q_run rfl rfl (fun _ H => r_sla rfl Try.underlying99 sz22 (by omega)) ?_
 refine q_nil ?_
 intro _ H'; clear H; have H := H'; clear H'
 refine s_cpW (enc := Value.int .u64) (zs := z0) H 0 rfl rfl rfl rfl (H.blk_reads 2 rfl rfl) hz0 (fun _ => rfl) (by rw [List.length_replicate]; omega) Try.underlying25 inf22 ?_
 intro _ H'
 clear H; have H := H'; clear H'; simp only [List.set_cons_zero] at H
 refine k_nc ?_
 refine k_seq ?_
 refine k_qt 3 mixed (by kernel_rfl) H rfl rfl ?_
 refine q_run rfl rfl (fun _ H => r_mv (v := .slice _ _ _) rfl) ?_
 refine q_run rfl rfl (fun _ H => r_slq (i := 128) (o2 := 128) (l2 := 384) (c2 := 384) rfl rfl rfl (by omega) rfl rfl rfl Try.underlying25 sz22) ?_
 refine q_run rfl rfl (fun _ H => r_sla rfl Try.underlying99 sz22 (by omega)) ?_
 refine q_nil ?_
 intro _ H'; clear H; have H := H'; clear H'
 refine s_cpW (enc := Value.int .u64) (zs := z1) H 0 rfl rfl rfl rfl (H.blk_reads 1 rfl rfl) hz1 (fun _ => rfl) (by simp [hz0]) Try.underlying25 inf22 ?_
 intro _ H'
 clear H; have H := H'; clear H'; simp only [List.set_cons_zero] at H
 refine k_nc ?_
 refine k_seq ?_
 have HT := H
 have H : Heap w [] [vec (Value.int .u64) bk (wds z0 z1) _, _, _] _ := HT
 clear HT
 have hcc : (Nv.load (wds z0 z1) 64).cache = wds z0 z1 := rfl
 have hUc : Im.U (Nv.load (wds z0 z1) 64).cache := hU
 generalize Nv.load (wds z0 z1) 64 = D at *
 generalize wds z0 z1 = ws at *
 by_cases hK : chK (getsA D.cache 64 16) (getsA D.cache 128 16) = -1
 ·have hO := fun g W hE => tOpenN g D W hE hUc hK
  have hO2 := fun s F W hr => rtOpenN s D 64 F W hr (by omega) hUc hK
  refine k_rg ?_
  refine s_run rfl rfl (rms rfl) ?_
  refine s_call rfl (hL bk _ (H.sees 0 rfl (F := []) (by simp) (m := 512) (fun _ => rfl) (fun _ => by omega))) (ca16 rfl) ?_
  rintro e W1 ⟨g, rfl, hg, H'⟩
  refine ⟨_, rfl, ?_⟩
  have H := H.more (A := [grp _]) (grp_heap H'); clear H'; simp only [List.cons_append, List.nil_append] at H
  refine s_call rfl (hO g _ (H.grp_ents 0 rfl)) (ca61 rfl) ?_
  rintro e W1 ⟨rfl, H'⟩
  refine ⟨_, rfl, ?_⟩
  have H := H.same H'; clear H'
  refine s_run rfl rfl (rmt rfl) ?_
  refine s_run rfl rfl (r_ext (v := .pointer _) rfl rfl) ?_
  refine s_run rfl rfl (r_ext (v := .int _ _) rfl rfl) ?_
  refine s_run rfl rfl (rap rfl) ?_
  refine s_run rfl rfl (rai rfl) ?_
  refine k_nc ?_
  refine k_sg ?_
  refine s_run rfl rfl (rms rfl) ?_
  refine s_call rfl (hR bk [] _ (H.sees 1 rfl (F := []) (by simp) (m := 512) (fun _ => rfl) (fun _ => by omega)) (by simp)) (ca44 rfl) ?_
  rintro e W1 ⟨s, rfl, H', hr⟩
  refine ⟨_, rfl, ?_⟩
  have H := H.same H'.only; clear H'
  refine s_call rfl (hO2 s [] _ (hr.later (G := []) (Only.refl _ _) (fun _ h => h))) (ca62 rfl) ?_
  rintro e W1 ⟨rfl, H'⟩
  refine ⟨_, rfl, ?_⟩
  have H := H.same H'; clear H'
  refine s_run rfl rfl (rmt rfl) ?_
  refine s_run rfl rfl (r_ext (v := .agg _) rfl rfl) ?_
  refine s_run rfl rfl (r_ext (v := .int _ _) rfl rfl) ?_
  refine s_al H rfl inf91 ?_
  intro p8 _ H'; clear H; have H := H'; clear H'
  refine s_sw H 0 rfl rfl rfl rfl rfl rfl rfl sz91 ?_
  clear H; intro _ H; simp only [jA, jB, jC, jD, jE, jF, jG, jH, jI, jJ, jK, Nat.reduceAdd] at H
  refine s_run rfl rfl (rai rfl) ?_
  refine k_nc ?_
  refine k_seq ?_
  refine k_sg ?_
  refine s_run rfl rfl (rmi rfl) ?_
  refine s_run rfl rfl (r_neqT rfl rfl (by omega)) ?_
  refine k_nc ?_
  refine k_t rfl ?_
  refine k_sg ?_
  refine s_run rfl rfl (rmp rfl) ?_
  refine s_run rfl rfl (r_ptnilT rfl rfl Try.underlying86) ?_
  refine s_run rfl rfl (rmb rfl) ?_
  refine s_run rfl (g_on 37 (by kernel_rfl) rfl) (rmi rfl) ?_
  refine s_run rfl (g_on 37 (by kernel_rfl) rfl) (rmi rfl) ?_
  refine s_run rfl (g_on 37 (by kernel_rfl) rfl) (r_eqlT rfl rfl (by omega)) ?_
  refine s_run rfl rfl (r_pkT (v := .bool _) rfl rfl) ?_
  refine s_run rfl rfl (rab rfl) ?_
  refine k_nc ?_
  refine k_ret ?_
  refine c_ret ?_
  refine fin1r (v := .bool _) rfl rfl ?_
  exact ⟨rfl, H.only.below⟩
 ·obtain ⟨k, c1, hk, c2, c3, c4, c5⟩ := ch_ok (getsA_len _ _ _) (getsA_len _ _ _) (getsA_U hUc 64 16) (getsA_U hUc 128 16) hK
  have hO := fun g W hE => tOpenY g D W hE hUc hk rfl rfl (by omega)
  have hO2 := fun s F W hr => rtOpenY s D 64 F W hr (by omega) hUc hk rfl rfl (by omega)
  have hl8 := c5.1
  generalize chE (getsA D.cache 64 16) (getsA D.cache 128 16) = E at *
  generalize chR (getsA D.cache 64 16) (getsA D.cache 128 16) = R at *
  obtain ⟨r0, r1, r2, r3, r4, r5, r6, r7, rfl⟩ := list8 hl8
  have hSh := fun t gp s W hE => lShows t gp 64 s D E k k [r0, r1, r2, r3, r4, r5, r6, r7] [r0, r1, r2, r3, r4, r5, r6, r7] W hE rfl rfl
  refine k_rg ?_
  refine s_run rfl rfl (rms rfl) ?_
  refine s_call rfl (hL bk _ (H.sees 0 rfl (F := []) (by simp) (m := 512) (fun _ => rfl) (fun _ => by omega))) (ca16 rfl) ?_
  rintro e W1 ⟨g, rfl, hg, H'⟩
  refine ⟨_, rfl, ?_⟩
  have H := H.more (A := [grp _]) (grp_heap H'); clear H'; simp only [List.cons_append, List.nil_append] at H
  refine s_call rfl (hO g _ (H.grp_ents 0 rfl)) (ca61 rfl) ?_
  rintro e W1 ⟨t, rfl, H'⟩
  refine ⟨_, rfl, ?_⟩
  have H1 := H.more H'; clear H H'; have H := H1; clear H1; simp only [List.cons_append, List.nil_append] at H
  refine s_run rfl rfl (rmt rfl) ?_
  refine s_run rfl rfl (r_ext (v := .pointer _) rfl rfl) ?_
  refine s_run rfl rfl (r_ext (v := .int _ _) rfl rfl) ?_
  refine s_run rfl rfl (rap rfl) ?_
  refine s_run rfl rfl (rai rfl) ?_
  refine k_nc ?_
  refine k_sg ?_
  refine s_run rfl rfl (rms rfl) ?_
  refine s_call rfl (hR bk [] _ (H.sees 2 rfl (F := []) (by simp) (m := 512) (fun _ => rfl) (fun _ => by omega)) (by simp)) (ca44 rfl) ?_
  rintro e W1 ⟨s, rfl, H', hr⟩
  refine ⟨_, rfl, ?_⟩
  have H := H.same H'.only; clear H'
  refine s_call rfl (hO2 s [] _ (hr.later (G := []) (Only.refl _ _) (fun _ h => h))) (ca62 rfl) ?_
  rintro e W1 ⟨rfl, H'⟩
  refine ⟨_, rfl, ?_⟩
  have H := H.same H'; clear H'
  refine s_run rfl rfl (rmt rfl) ?_
  refine s_run rfl rfl (r_ext (v := .agg _) rfl rfl) ?_
  refine s_run rfl rfl (r_ext (v := .int _ _) rfl rfl) ?_
  refine s_al H rfl inf91 ?_
  intro p8 _ H'; clear H; have H := H'; clear H'
  refine s_sw H 0 rfl rfl rfl rfl rfl rfl rfl sz91 ?_
  clear H; intro _ H; simp only [jA, jB, jC, jD, jE, jF, jG, jH, jI, jJ, jK, Nat.reduceAdd] at H
  refine s_run rfl rfl (rai rfl) ?_
  refine k_nc ?_
  refine k_seq ?_
  refine k_sg ?_
  refine s_run rfl rfl (rmi rfl) ?_
  refine s_run rfl rfl (r_neqF rfl rfl (by omega)) ?_
  refine k_nc ?_
  refine k_f rfl ?_
  refine k_skip ?_
  refine c_norm ?_
  refine k_sg ?_
  refine s_run rfl rfl (rmi rfl) ?_
  refine s_run rfl rfl (r_eqlT rfl rfl (by omega)) ?_
  refine s_run rfl rfl (rmb rfl) ?_
  refine s_run rfl (g_on 44 (by kernel_rfl) rfl) (rmp rfl) ?_
  refine s_run rfl (g_on 44 (by kernel_rfl) rfl) (r_ptnnilT rfl rfl Try.underlying86) ?_
  refine s_run rfl rfl (r_pkT (v := .bool _) rfl rfl) ?_
  refine s_run rfl rfl (rmb rfl) ?_
  refine s_run rfl (g_on 48 (by kernel_rfl) rfl) (rmp rfl) ?_
  refine s_run rfl (g_on 48 (by kernel_rfl) rfl) (r_la H 0 rfl rfl rfl ag91 sz91) ?_
  refine s_call (g_on 48 (by kernel_rfl) rfl) (hSh t g.p s _ (H.one 1 rfl)) (ca60 rfl) ?_
  rintro e W1 ⟨rfl, H'⟩
  refine ⟨_, rfl, ?_⟩
  have H := H.same H'; clear H'
  refine s_run rfl rfl (r_pkT (v := .bool _) rfl rfl) ?_
  refine s_run rfl rfl (rab rfl) ?_
  refine k_nc ?_
  refine k_ret ?_
  refine fin1r (v := .bool _) rfl rfl ?_
  exact ⟨rfl, H.only.below⟩
end Go.Proofs.Ytmekhdclnhhhbaa
end

section
namespace Go.Proofs.Ytmekhdclnhhhbaa.lRootsOpens
open Go.ChangeShapes Go.WideShapes Go.ChangeAt Go.RowKit
theorem own : ownKnob Try.prog.godebug = none := by kernel_rfl
theorem laidOut : laidOutB Try.prog = true := by kernel_rfl
set_option maxRecDepth 100000 in
theorem lifted (os : Os) (started : os.Started) (H : Type) (enc : TypeId × Value → H) :
  ReturnsInHanded {} Try.checked os 14 .any (Rows.rootsOpensSpec.pre6 enc Try.prog Try.f14 Rows.rootsOpensRow.domain false) (Rows.rootsOpensSpec.post enc Try.prog Try.f14 false true false false) := by
 refine returnsInHanded_of_change (C := Try.checked) own started (by kernel_rfl) Try.func14
  (ChangeSpec.witness6 (enc := enc) (C := Try.checked) false ⟨#[], #[.agg #[.int .u64 0, .int .u64 0, .int .u64 0, .int .u64 0, .int .u64 0, .int .u64 0, .int .u64 0, .int .u64 0, .int .u64 0, .int .u64 0, .int .u64 0, .int .u64 0, .int .u64 0, .int .u64 0, .int .u64 0, .int .u64 0], .agg #[.int .u64 0, .int .u64 0, .int .u64 0, .int .u64 0, .int .u64 0, .int .u64 0, .int .u64 0, .int .u64 0, .int .u64 0, .int .u64 0, .int .u64 0, .int .u64 0, .int .u64 0, .int .u64 0, .int .u64 0, .int .u64 0]], []⟩ 8 (by kernel_rfl) (by kernel_rfl) (by kernel_rfl) (by kernel_rfl)) ?_
 intro W base args ds gs before hval0 hW hcnd _
 have hval : ∀ (j : Nat) t v, Try.f14.params[j]? = some t → args[j]? = some v → Value.okWide Try.prog W .any base t v := hval0
 have hW' := hW
 obtain ⟨p, q, hA0, hV, rfl, hfz, hnd⟩ := hW
 have hA : DataW.TrodAll enc Try.prog W 0 (fun _ => true) true Try.f14.params.toList args.toList ds p := hA0
 rw [Try.params14] at hA hval
 obtain ⟨v0, vs0, d0, ds0, p0, q0, hargs, rfl, rfl, h0, r0⟩ := trodAll_cons hA
 obtain ⟨v1, vs1, d1, ds1, p1, q1, rfl, rfl, rfl, h1, r1⟩ := trodAll_cons r0
 obtain ⟨rfl, rfl, rfl⟩ := trodAll_nil r1
 obtain rfl : args = #[v0, v1] := by cases args; simp_all
 obtain ⟨rfl, rfl⟩ := trodVars_none hV
 have k0 := h0
 have lt0 : ∀ x ∈ p0, x.block < W.heap.size := by obtain ⟨m, hm⟩ := k0; exact DataW.trod_lt m _ _ _ hm
 have k1 := h1
 have lt1 : ∀ x ∈ p1, x.block < W.heap.size := by obtain ⟨m, hm⟩ := k1; exact DataW.trod_lt m _ _ _ hm
 obtain ⟨z0, hz0, rfl, wz0⟩ := open_array_ints Try.underlying99 Try.underlying22 (by kernel_rfl) (by kernel_rfl) (hval 0 99 v0 rfl rfl) h0
 obtain ⟨z1, hz1, rfl, wz1⟩ := open_array_ints Try.underlying99 Try.underlying22 (by kernel_rfl) (by kernel_rfl) (hval 1 99 v1 rfl rfl) h1
 clear hA0 hval0
 refine (walk_RootsOpens z0 z1 W hz0 wz0 hz1 wz1).mono fun e W' ⟨he, bel⟩ => ?_
 subst he
 exact ⟨_, rfl, _, _, _, [], _, [], hW', trodAll_mk1 (shut_bool Try.underlying4 _), (trodAll_cons_mk (Below.trod laidOut (by kernel_rfl) (of_decide_eq_true (by kernel_rfl)) k0 bel lt0) (trodAll_cons_mk (Below.trod laidOut (by kernel_rfl) (of_decide_eq_true (by kernel_rfl)) k1 bel lt1) trodAll_mk0)), rfl, bel.frame _, fun h => by cases h⟩
theorem over : Rows.rootsOpensRow.holds Try.pinned (OpenSpec.ofChange Rows.rootsOpensSpec) :=
 OpenClaim.holds_of_wide 14 Try.f14 rfl rfl rfl rfl rfl rfl rfl ⟨rfl, rfl, rfl, rfl, rfl⟩ rfl rfl rfl rfl rfl (by kernel_rfl) Try.func14 (by kernel_rfl)
  (of_decide_eq_true (by kernel_rfl)) (by unfold Func.isWrapper; first | (rw [if_pos (by decide +kernel)]; kernel_rfl) | (rw [if_neg (by decide +kernel)]; exact ⟨rfl, rfl⟩))
  (fun os started H enc _ => lifted os started H enc)
theorem proved : Rows.RootsOpensSaid := over
#print axioms proved
end Go.Proofs.Ytmekhdclnhhhbaa.lRootsOpens
end
