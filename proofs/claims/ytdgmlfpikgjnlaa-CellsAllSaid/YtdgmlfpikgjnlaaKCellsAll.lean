/-
  CellsAll: for every input the Go function answers true, and its arguments read afterwards as they read before. No condition.
-/
import Derived.Test.YtdgmlfpikgjnlaaKCellsAlla
set_option linter.unusedSimpArgs false
set_option linter.unusedVariables false
section
namespace Go.Proofs.Ytdgmlfpikgjnlaa
open Go.RowKit
set_option maxRecDepth 100000
theorem only_drewN (w : World) (q : Nat) : Only [] w (w.drewN q) := ⟨rfl, rfl, rfl, Nat.le_refl _, fun _ _ _ => rfl⟩
theorem ints_sees (A B : Option Addr) (n c m d : Nat) (xs ys : List Int) (w : World) (hx : Sees (Value.int .i64) w [] A xs) (hy : Sees (Value.int .i64) w [] B ys) (lx : xs.length = n) (ly : ys.length = m) (ix : Ints .i64 xs) (iy : Ints .i64 ys) (n1 : n ≤ maxLen) (m1 : m ≤ maxLen) :
  Calls Try.prog 33 [.slice A n c, .slice B m d].toArray w fun e w' => e = .returned (.bool (eqB xs ys)) ∧ Only [] w w' :=
 (ints_any A B n c m d xs ys _ _ w (hx.row lx) (hy.row ly) ix iy n1 m1).mono fun e w' ⟨h, q, hq⟩ => ⟨h, by subst hq; exact only_drewN w q⟩
theorem own_ints {T : TypeId} {xs : List Int} {w w' : World} {e : Ending} (h : OwnInts .i64 T xs w e w') : ∃ A c, e = .returned (.slice A xs.length c) ∧ Heap w [] [ownN 1 (.slice A xs.length c) xs.length (xs.map (Value.int .i64)) T] w' := by
 obtain ⟨v, he, ho, hb⟩ := h
 obtain ⟨A, c, rfl, H⟩ := own_heap ho hb
 exact ⟨A, c, he, H⟩
theorem Sees.take {α : Type} {enc : α → Value} {w : World} {F : List Nat} {A : Option Addr} {xs : List α} (h : Sees enc w F A xs) (k : Nat) : Sees enc w F A (xs.take k) := by
 intro h0
 simp at h0
 obtain ⟨b, o, e, hb, hr⟩ := h (by intro h2; exact h0.2 (List.eq_nil_of_length_eq_zero h2))
 refine ⟨b, o, e, hb, fun i z hz => hr i z ?_⟩
 rw [List.getElem?_take] at hz
 split at hz
 ·exact hz
 ·cases hz
/-- what the loop holds -/
def caL (two : List Value) (nn : Int) (p4 p5 p11 : Nat) (B : Option Addr) (d : Nat) (want : List Int) (A : Option Addr) (c : Nat) (pre : List Int) : List Ent :=
 [blk p11 [.slice A pre.length c] 22, ownN 1 (.slice A pre.length c) pre.length (pre.map (Value.int .i64)) 3, ownN 1 (.slice B want.length d) want.length (want.map (Value.int .i64)) 3, blk p5 [.int .u8 nn] 5, blk p4 two 47]
theorem caL_cel (two : List Value) (nn : Int) (p4 p5 p11 : Nat) (B : Option Addr) (d : Nat) (want : List Int) (A : Option Addr) (c : Nat) (pre : List Int) : ∀ E ∈ caL two nn p4 p5 p11 B d want A c pre, Cel E :=
 cl_cons (cl_blk _ _ _) (cl_cons (cl_own _ _ _ _ _) (cl_cons (cl_own _ _ _ _ _) (cl_cons (cl_blk _ _ _) (cl_cons (cl_blk _ _ _) cl_nil))))
theorem cellsE_cel (n k b : Int) (p3 p4 p5 : Nat) : ∀ E ∈ cellsE n k b p3 p4 p5, Cel E := cl_cons (cl_blk _ _ _) (cl_cons (cl_blk _ _ _) (cl_cons (cl_blk _ _ _) cl_nil))
theorem walk_CellsAll (bl k b nn : Int) (w : World) (w0 : (Lit.int .u8 bl).wf = true) (w1 : (Lit.int .i64 k).wf = true) (w2 : (Lit.int .i64 b).wf = true) (w3 : (Lit.int .u8 nn).wf = true) :
  Calls Try.prog 8 [.int .u8 bl, .agg [.int .i64 k, .int .i64 b].toArray, .int .u8 nn].toArray w fun e w' => e = .returned (.bool true) ∧ Below w.heap.size w w' := by
 have g0 : 0 ≤ bl ∧ bl ≤ 255 := bounds_u8 w0
 have g1 : -9223372036854775808 ≤ k ∧ k ≤ 9223372036854775807 := bounds_i64 w1
 have g2 : -9223372036854775808 ≤ b ∧ b ≤ 9223372036854775807 := bounds_i64 w2
 have g3 : 0 ≤ nn ∧ nn ≤ 255 := bounds_u8 w3
 have hlen := Ce.all_len bl k b
 have hbd := Ce.all_bd bl k b (by omega)
 have hwf : Ints .i64 (Ce.all bl k b) := fun x hx => wf_i64 (by have := hbd x hx; omega)
 have H := Heap.nil w
 refine k_inM (N := 53) Try.func8 rfl rfl rfl ?_
 refine k_sg ?_
 refine s_box H rfl rfl ?_
 intro p4 _ H'; clear H; have H := H'; clear H'
 refine s_box1 H rfl rfl rfl ?_
 intro p5 _ H'; clear H; have H := H'; clear H'
 refine s_run rfl rfl (rab rfl) ?_
 refine k_nc ?_
 refine k_seq ?_
 refine k_sg ?_
 refine s_call rfl (awake9_any _) (ca30 rfl) ?_
 rintro e W1 ⟨rfl, H'⟩
 refine ⟨_, rfl, ?_⟩
 have H := H.same (Only.of_below H' []); clear H'
 refine s_run rfl rfl (r_notT rfl) ?_
 refine k_nc ?_
 refine k_f rfl ?_
 refine k_skip ?_
 refine c_norm ?_
 refine k_seq ?_
 refine k_q mixed (by kernel_rfl) H ?_
 refine q_run rfl rfl (fun _ H => r_ia0 (i := 0) rfl rfl (by omega) (by omega) Try.underlying47 sz3) ?_
 refine q_run rfl rfl (fun _ H => r_lo H 1 rfl rfl rfl ag3) ?_
 refine q_run rfl rfl (fun _ H => r_ia0 (i := 1) rfl rfl (by omega) (by omega) Try.underlying47 sz3) ?_
 refine q_run rfl rfl (fun _ H => r_lo H 1 rfl rfl rfl ag3) ?_
 refine q_run rfl rfl (fun _ H => r_as (v := .int _ _) rfl) ?_
 refine q_run rfl rfl (fun _ H => r_as (v := .int _ _) rfl) ?_
 refine q_nil ?_
 intro _ H'; clear H; have H := H'; clear H'
 refine c_norm ?_
 refine k_sg ?_
 refine s_run rfl rfl (rmi rfl) ?_
 refine s_run rfl rfl (r_cv rfl (by kernel_rfl) Try.underlying3 (wI (by omega))) ?_
 refine s_run rfl rfl (r_bd (bd52_0 _) rfl) ?_
 refine s_run rfl rfl (rmi rfl) ?_
 refine s_run rfl rfl (rmi rfl) ?_
 refine s_call rfl (cellsAll_any bl k b _) (ca31 rfl) ?_
 rintro e W1 ⟨q3, q4, q5, rfl, H'⟩
 refine ⟨_, rfl, ?_⟩
 have H := H.more H'; clear H'
 refine s_run rfl rfl (r_as (v := .func _ _ _) rfl) ?_
 refine k_nc ?_
 refine k_seq ?_
 refine k_sg ?_
 refine s_run rfl rfl (r_mv (v := .func _ _ _) rfl) ?_
 refine s_run rfl rfl (r_fnil rfl rfl Try.underlying48) ?_
 refine k_nc ?_
 refine k_f rfl ?_
 refine k_skip ?_
 refine c_norm ?_
 refine k_sg ?_
 refine s_run rfl rfl (rmi rfl) ?_
 refine s_run rfl rfl (r_cv rfl (by kernel_rfl) Try.underlying3 (wI (by omega))) ?_
 refine s_run rfl rfl (rmi rfl) ?_
 refine s_run rfl rfl (rmi rfl) ?_
 refine s_call rfl ((rAll9_any bl k b _ (by omega) (by omega) (by omega) (by omega)).mono fun _ _ => own_ints) (ca32 rfl) ?_
 rintro e W1 ⟨B, d, rfl, H'⟩
 refine ⟨_, rfl, ?_⟩
 have H := H.more H'; clear H'
 refine s_run rfl rfl (ras rfl) ?_
 refine k_nc ?_
 refine k_sg ?_
 refine s_al1 H rfl inf22 rfl ?_
 intro p11 _ H'; clear H; have H := H'; clear H'
 refine k_nc ?_
 refine k_seq ?_
 refine k_sg ?_
 refine s_run rfl rfl (r_mv (v := .func _ _ _) rfl) ?_
 refine k_nc ?_
 refine k_b ?_
 have HP := H.ents
 replace H := H.own_nil 1 3
 replace H : Heap w [] (caL [.int .i64 k, .int .i64 b] nn p4 p5 p11 B d (Ce.all bl k b) none 0 [] ++ cellsE bl k b q3 q4 q5) _ := H.order [1, 0, 2, 6, 7, 3, 4, 5] rfl rfl
 have HK : Ents (cellsE bl k b q3 q4 q5) _ := (H.order [5, 6, 7, 0, 1, 2, 3, 4] rfl rfl : Heap w [] (cellsE bl k b q3 q4 q5 ++ _) _).part
 clear HP
 refine k_rf (N := (Ce.all bl k b).length) (caL [.int .i64 k, .int .i64 b] nn p4 p5 p11 B d (Ce.all bl k b) none 0 []) (cellsE bl k b q3 q4 q5) H (cellsE_cel _ _ _ _ _ _) rfl Try.func61 (by kernel_rfl) (by kernel_rfl)
  (cellsAll_seq bl k b q3 q4 q5 _ (by omega) (by omega) (by omega) (by omega) (by omega) (by omega) HK) (fun _ => rfl) (by kernel_rfl)
  (fun pre L => (pre.length : Int) ≤ nn ∧ ∃ A c, L = caL [.int .i64 k, .int .i64 b] nn p4 p5 p11 B d (Ce.all bl k b) A c pre)
  (fun q pre L => q = .exit 0 ∧ (pre.length : Int) = nn + 1 ∧ ∃ A c, L = caL [.int .i64 k, .int .i64 b] nn p4 p5 p11 B d (Ce.all bl k b) A c pre)
  (by rintro pre L ⟨_, A, c, rfl⟩; exact caL_cel _ _ _ _ _ _ _ _ _ _ _) (by rintro q pre L ⟨_, _, A, c, rfl⟩; exact caL_cel _ _ _ _ _ _ _ _ _ _ _) ⟨by simpa using g3.1, none, 0, rfl⟩ (fun x => [(33, .int .i64 x)]) (fun x => [(12, .int .i64 x)]) (fun _ => by simp) ?assign ?body ?done ?stop
 case assign =>
  intro x W
  refine k_rg ?_
  refine s_run rfl rfl (rai rfl) ?_
  refine k_nil ?_
  exact asg_end rfl
 case body =>
  rintro pre x L W ⟨hp, A, c, rfl⟩ hlen HO H
  clear HO
  have hEL : ∀ A c, [blk p11 [.slice A (pre.length + 1) c] 22, ownN 1 (.slice A (pre.length + 1) c) (pre.length + 1) ((pre ++ [x]).map (Value.int .i64)) 3, ownN 1 (.slice B (Ce.all bl k b).length d) (Ce.all bl k b).length ((Ce.all bl k b).map (Value.int .i64)) 3, blk p5 [.int .u8 nn] 5, blk p4 [.int .i64 k, .int .i64 b] 47] = caL [.int .i64 k, .int .i64 b] nn p4 p5 p11 B d (Ce.all bl k b) A c (pre ++ [x]) := fun A c => by
   unfold caL; rw [List.length_append]; rfl
  unfold caL at H
  by_cases hlt : (pre.length : Int) + 1 ≤ nn
  ·refine k_b ?_
   refine k_sg ?_
   refine s_run rfl rfl (r_lo H 0 rfl rfl rfl ag22) ?_
   refine s_run rfl rfl (rmi rfl) ?_
   refine s_app1 (enc := (Value.int .i64)) H 1 rfl rfl rfl rfl rfl rfl rfl (by omega) Try.underlying22 inf3 rfl ?_
   intro _ An cn _ H'; simp only [List.set_cons_zero, List.set_cons_succ, List.take_succ_cons, List.take_zero, List.drop_succ_cons, List.drop_zero, List.cons_append, List.nil_append, List.append_nil, List.length_cons, List.length_nil, Nat.reduceAdd] at H'; clear H; have H := H'; clear H'
   refine s_st (u := .slice _ _ _) H 0 rfl rfl rfl rfl rfl rfl sz22 ?_
   clear H; intro _ H; simp only [jA, jB, jC, jD, jE, jF, jG, jH, jI, jJ, jK, Nat.reduceAdd] at H
   refine k_nc ?_
   refine k_sg ?_
   refine s_run rfl rfl (r_lo H 0 rfl rfl rfl ag22) ?_
   refine s_run rfl rfl (r_len rfl Try.underlying22) ?_
   refine s_run rfl rfl (r_lo H 3 rfl rfl rfl ag5) ?_
   refine s_run rfl rfl (r_cv rfl (by kernel_rfl) Try.underlying3 (wI (by omega))) ?_
   refine s_run rfl rfl (r_gtrF rfl rfl (by omega)) ?_
   refine k_nc ?_
   refine k_f rfl ?_
   refine k_skip ?_
   refine b_norm ?_
   refine rq_go ?_
   exact ⟨_, ⟨by simpa using hlt, _, _, hEL _ _⟩, H⟩
  ·refine k_b ?_
   refine k_sg ?_
   refine s_run rfl rfl (r_lo H 0 rfl rfl rfl ag22) ?_
   refine s_run rfl rfl (rmi rfl) ?_
   refine s_app1 (enc := (Value.int .i64)) H 1 rfl rfl rfl rfl rfl rfl rfl (by omega) Try.underlying22 inf3 rfl ?_
   intro _ An cn _ H'; simp only [List.set_cons_zero, List.set_cons_succ, List.take_succ_cons, List.take_zero, List.drop_succ_cons, List.drop_zero, List.cons_append, List.nil_append, List.append_nil, List.length_cons, List.length_nil, Nat.reduceAdd] at H'; clear H; have H := H'; clear H'
   refine s_st (u := .slice _ _ _) H 0 rfl rfl rfl rfl rfl rfl sz22 ?_
   clear H; intro _ H; simp only [jA, jB, jC, jD, jE, jF, jG, jH, jI, jJ, jK, Nat.reduceAdd] at H
   refine k_nc ?_
   refine k_sg ?_
   refine s_run rfl rfl (r_lo H 0 rfl rfl rfl ag22) ?_
   refine s_run rfl rfl (r_len rfl Try.underlying22) ?_
   refine s_run rfl rfl (r_lo H 3 rfl rfl rfl ag5) ?_
   refine s_run rfl rfl (r_cv rfl (by kernel_rfl) Try.underlying3 (wI (by omega))) ?_
   refine s_run rfl rfl (r_gtrT rfl rfl (by omega)) ?_
   refine k_nc ?_
   refine k_t rfl ?_
   refine k_exit ?_
   refine b_miss rfl ?_
   refine rq_exit ?_
   exact ⟨_, ⟨rfl, by simp; omega, _, _, hEL _ _⟩, H⟩
 case done =>
  rintro D xs L W rfl ⟨hp, A, c, rfl⟩ H
  unfold caL at H
  have hcap : (Ce.all bl k b).length ≤ d := by
   rcases (H.own_get 3 rfl).2 with ⟨h, h0⟩ | ⟨g, cap, cur, h, _, _, h3, _⟩
   ·omega
   ·injection h with _ _ h; omega
  have e1 : (Ce.all bl k b).take (Ce.all bl k b).length = Ce.all bl k b := List.take_length
  refine b_norm ?_
  refine c_norm ?_
  refine k_seq ?_
  refine k_q mixed (by kernel_rfl) H ?_
  refine q_run rfl rfl (fun _ H => r_lo H 1 rfl rfl rfl ag22) ?_
  refine q_run rfl rfl (fun _ H => r_mv (v := .slice _ _ _) rfl) ?_
  refine q_run rfl rfl (fun _ H => r_mv (v := .slice _ _ _) rfl) ?_
  refine q_run rfl rfl (fun _ H => r_len rfl Try.underlying22) ?_
  refine q_run rfl rfl (fun _ H => r_lo H 4 rfl rfl rfl ag5) ?_
  refine q_run rfl rfl (fun _ H => r_cv rfl (by kernel_rfl) Try.underlying3 (wI (by omega))) ?_
  refine q_run rfl rfl (fun _ H => r_add rfl rfl (wI (by omega))) ?_
  refine q_run rfl rfl (fun _ H => r_min (c := ((Ce.all bl k b).length : Int)) rfl rfl (by split <;> omega)) ?_
  refine q_run rfl rfl (fun _ H => r_shiA rfl rfl rfl hcap Try.underlying22 sz3) ?_
  refine q_call rfl rfl (fun _ H => ints_sees _ _ _ _ _ _ (Ce.all bl k b) (Ce.all bl k b) _ (H.own_sees 2 rfl) (H.own_sees 3 rfl) rfl rfl hwf hwf (by unfold maxLen; omega) (by unfold maxLen; omega)) (ca33 rfl) ?_
  refine q_run rfl rfl (fun _ H => r_as (v := .bool _) rfl) ?_
  refine q_nil ?_
  intro _ H'; clear H; have H := H'; clear H'
  refine c_norm ?_
  refine k_ret ?_
  refine fin_r ?_
  refine fin_D H 0 rfl ?_
  intro _ H'; simp only [List.eraseIdx_cons_zero, List.eraseIdx_cons_succ] at H'; clear H; have H := H'; clear H'
  refine fm1 rfl (rv_t (v := .bool _) rfl) ?_
  rw [eqB_yes _ _ rfl]
  exact ⟨rfl, H.below⟩
 case stop =>
  rintro D q pre L W hS ⟨rfl, hp, A, c, rfl⟩ H
  unfold caL at H
  have hpl := hS.length_le
  have hpt : pre = (Ce.all bl k b).take pre.length := (List.prefix_iff_eq_take.1 hS)
  have hcap : (Ce.all bl k b).length ≤ d := by
   rcases (H.own_get 3 rfl).2 with ⟨h, h0⟩ | ⟨g, cap, cur, h, _, _, h3, _⟩
   ·omega
   ·injection h with _ _ h; omega
  have hwf2 : Ints .i64 pre := fun x hx => hwf x (by rw [hpt] at hx; exact List.mem_of_mem_take hx)
  refine k_exit ?_
  refine b_hit ?_
  refine c_norm ?_
  refine k_seq ?_
  refine k_q mixed (by kernel_rfl) H ?_
  refine q_run rfl rfl (fun _ H => r_lo H 1 rfl rfl rfl ag22) ?_
  refine q_run rfl rfl (fun _ H => r_mv (v := .slice _ _ _) rfl) ?_
  refine q_run rfl rfl (fun _ H => r_mv (v := .slice _ _ _) rfl) ?_
  refine q_run rfl rfl (fun _ H => r_len rfl Try.underlying22) ?_
  refine q_run rfl rfl (fun _ H => r_lo H 4 rfl rfl rfl ag5) ?_
  refine q_run rfl rfl (fun _ H => r_cv rfl (by kernel_rfl) Try.underlying3 (wI (by omega))) ?_
  refine q_run rfl rfl (fun _ H => r_add rfl rfl (wI (by omega))) ?_
  refine q_run rfl rfl (fun _ H => r_min (c := (pre.length : Int)) rfl rfl (by split <;> omega)) ?_
  refine q_run rfl rfl (fun _ H => r_shiA rfl rfl rfl (Nat.le_trans hpl hcap) Try.underlying22 sz3) ?_
  refine q_call rfl rfl (fun _ H => ints_sees _ _ _ _ _ _ pre ((Ce.all bl k b).take pre.length) _ (H.own_sees 2 rfl) ((H.own_sees 3 rfl).take _) rfl (by simp; omega) hwf2 (fun x hx => hwf x (List.mem_of_mem_take hx)) (by unfold maxLen; omega) (by unfold maxLen; omega)) (ca33 rfl) ?_
  refine q_run rfl rfl (fun _ H => r_as (v := .bool _) rfl) ?_
  refine q_nil ?_
  intro _ H'; clear H; have H := H'; clear H'
  refine c_norm ?_
  refine k_ret ?_
  refine fin_r ?_
  refine fin_D H 0 rfl ?_
  intro _ H'; simp only [List.eraseIdx_cons_zero, List.eraseIdx_cons_succ] at H'; clear H; have H := H'; clear H'
  refine fm1 rfl (rv_t (v := .bool _) rfl) ?_
  rw [eqB_yes _ _ hpt]
  exact ⟨rfl, H.below⟩
end Go.Proofs.Ytdgmlfpikgjnlaa
end

section
namespace Go.Proofs.Ytdgmlfpikgjnlaa.lCellsAll
open Go.ChangeShapes Go.WideShapes Go.ChangeAt Go.RowKit
theorem own : ownKnob Try.prog.godebug = none := by kernel_rfl
theorem laidOut : laidOutB Try.prog = true := by kernel_rfl
set_option maxRecDepth 100000 in
theorem lifted (os : Os) (started : os.Started) (H : Type) (enc : TypeId × Value → H) :
  ReturnsInHanded {} Try.checked os 8 .any (Rows.cellsAllSpec.pre6 enc Try.prog Try.f8 Rows.cellsAllRow.domain false) (Rows.cellsAllSpec.post enc Try.prog Try.f8 false true false false) := by
 refine returnsInHanded_of_change (C := Try.checked) own started (by kernel_rfl) Try.func8
  (ChangeSpec.witness6 (enc := enc) (C := Try.checked) false ⟨#[], #[.int .u8 0, .agg #[.int .i64 0, .int .i64 0], .int .u8 0], []⟩ 8 (by kernel_rfl) (by kernel_rfl) (by kernel_rfl) (by kernel_rfl)) ?_
 intro W base args ds gs before hval0 hW hcnd _
 have hval : ∀ (j : Nat) t v, Try.f8.params[j]? = some t → args[j]? = some v → Value.okWide Try.prog W .any base t v := hval0
 have hW' := hW
 obtain ⟨p, q, hA0, hV, rfl, hfz, hnd⟩ := hW
 have hA : DataW.TrodAll enc Try.prog W 0 (fun _ => true) true Try.f8.params.toList args.toList ds p := hA0
 rw [Try.params8] at hA hval
 obtain ⟨v0, vs0, d0, ds0, p0, q0, hargs, rfl, rfl, h0, r0⟩ := trodAll_cons hA
 obtain ⟨v1, vs1, d1, ds1, p1, q1, rfl, rfl, rfl, h1, r1⟩ := trodAll_cons r0
 obtain ⟨v2, vs2, d2, ds2, p2, q2, rfl, rfl, rfl, h2, r2⟩ := trodAll_cons r1
 obtain ⟨rfl, rfl, rfl⟩ := trodAll_nil r2
 obtain rfl : args = #[v0, v1, v2] := by cases args; simp_all
 obtain ⟨rfl, rfl⟩ := trodVars_none hV
 have k0 := h0
 have lt0 : ∀ x ∈ p0, x.block < W.heap.size := by obtain ⟨m, hm⟩ := k0; exact DataW.trod_lt m _ _ _ hm
 have k1 := h1
 have lt1 : ∀ x ∈ p1, x.block < W.heap.size := by obtain ⟨m, hm⟩ := k1; exact DataW.trod_lt m _ _ _ hm
 have k2 := h2
 have lt2 : ∀ x ∈ p2, x.block < W.heap.size := by obtain ⟨m, hm⟩ := k2; exact DataW.trod_lt m _ _ _ hm
 obtain ⟨a0, rfl, rfl, rfl, w0⟩ := open_int Try.underlying5 (hval 0 5 v0 rfl rfl) h0
 obtain ⟨z1, hz1, rfl, wz1⟩ := open_array_ints Try.underlying47 Try.underlying3 (by kernel_rfl) (by kernel_rfl) (hval 1 47 v1 rfl rfl) h1
 obtain ⟨a1_0, a1_1, rfl⟩ := list2 hz1
 obtain ⟨a2, rfl, rfl, rfl, w2⟩ := open_int Try.underlying5 (hval 2 5 v2 rfl rfl) h2
 clear hA0 hval0
 refine (walk_CellsAll a0 a1_0 a1_1 a2 W w0 (wz1 _ (by simp)) (wz1 _ (by simp)) w2).mono fun e W' ⟨he, bel⟩ => ?_
 subst he
 exact ⟨_, rfl, _, _, _, [], _, [], hW', trodAll_mk1 (shut_bool Try.underlying4 _), (trodAll_cons_mk (Below.trod laidOut (by kernel_rfl) (of_decide_eq_true (by kernel_rfl)) k0 bel lt0) (trodAll_cons_mk (Below.trod laidOut (by kernel_rfl) (of_decide_eq_true (by kernel_rfl)) k1 bel lt1) (trodAll_cons_mk (Below.trod laidOut (by kernel_rfl) (of_decide_eq_true (by kernel_rfl)) k2 bel lt2) trodAll_mk0))), rfl, bel.frame _, fun h => by cases h⟩
theorem over : Rows.cellsAllRow.holds Try.pinned (OpenSpec.ofChange Rows.cellsAllSpec) :=
 OpenClaim.holds_of_wide 8 Try.f8 rfl rfl rfl rfl rfl rfl rfl ⟨rfl, rfl, rfl, rfl, rfl⟩ rfl rfl rfl rfl rfl (by kernel_rfl) Try.func8 (by kernel_rfl)
  (of_decide_eq_true (by kernel_rfl)) (by unfold Func.isWrapper; first | (rw [if_pos (by decide +kernel)]; kernel_rfl) | (rw [if_neg (by decide +kernel)]; exact ⟨rfl, rfl⟩))
  (fun os started H enc _ => lifted os started H enc)
theorem proved : Rows.CellsAllSaid := over
#print axioms proved
end Go.Proofs.Ytdgmlfpikgjnlaa.lCellsAll
end
