/-
  OrderChecks: for every input the Go function answers true, and its arguments read afterwards as they read before. No condition.
-/
import Derived.Test.YtpbimgopiammaaaKOrderChecksc
set_option linter.unusedSimpArgs false
set_option linter.unusedVariables false
set_option linter.unusedSectionVars false
section
namespace Go.Proofs.Ytpbimgopiammaaa
open Go.RowKit
structure EvT where
 f0 : Int
 f1 : Int
def EvT.cells (u : EvT) : List Value := [.int .i64 u.f0, .int .i64 u.f1]
structure EvTOk (w : World) (u : EvT) : Prop where
 w0 : (Lit.int .i64 u.f0).wf = true
 w1 : (Lit.int .i64 u.f1).wf = true
def ScriptEvT (w : World) (A : Option Addr) (ops : List EvT) : Prop := (ops.length ≠ 0 → ∃ b o, A = some ⟨b, o, none⟩ ∧ ∀ i op, ops[i]? = some op → Reads (fun v : Value => v) w b (o + i * 2) op.cells) ∧ ∀ op ∈ ops, EvTOk w op
theorem EvTOk.later {w W : World} {u : EvT} (h : EvTOk w u) (hO : Only [] w W) : EvTOk W u := ⟨h.w0, h.w1⟩
theorem ScriptEvT.later {w W : World} {A : Option Addr} {ops : List EvT} (h : ScriptEvT w A ops) (hO : Only [] w W) : ScriptEvT W A ops :=
 ⟨fun h0 => by
  obtain ⟨b, o, e, hr⟩ := h.1 h0
  exact ⟨b, o, e, fun i op hi => (hr i op hi).later hO (by simp)⟩, fun op hop => (h.2 op hop).later hO⟩
section
open Go.ChangeShapes Go.WideShapes Go.Deep
variable {H : Type} {enc : TypeId × Value → H} {w : World} {base : Nat} {spare : Nat → Bool} {held : Bool}
set_option maxRecDepth 100000 in
theorem open_EvT {fuel : Nat} {cs : List Value} {y : DataW H × List MemPlace} (h : DataW.trod enc Try.prog w base spare held fuel 49 cs = some y) : ∃ op : EvT, cs = op.cells ∧ EvTOk w op := by
 obtain ⟨xs, n, _, _, hl, hlen, hg⟩ := DataW.trod_struct Try.underlying49 h
 have hone := o_one Try.underlying49 (by kernel_rfl)
 have hcl : cs.length = 2 := hl.trans (by kernel_rfl)
 replace hlen : xs.length = 2 := hlen
 match cs, hcl, xs, hlen with
 | [c0, c1], _, [y0, y1], _ =>
  obtain ⟨o0, k0⟩ := hone_of hone 0 _ rfl
  obtain ⟨o1, k1⟩ := hone_of hone 1 _ rfl
  have g0 := hg 0 _ rfl
  have g1 := hg 1 _ rfl
  rw [o0, k0] at g0
  rw [o1, k1] at g1
  replace g0 := g0.trans (show _ = some y0 from rfl)
  replace g1 := g1.trans (show _ = some y1 from rfl)
  obtain ⟨z0, e0, _, w0⟩ := DataW.trod_int Try.underlying3 g0
  obtain ⟨z1, e1, _, w1⟩ := DataW.trod_int Try.underlying3 g1
  obtain rfl : c0 = .int .i64 z0 := by simpa using e0
  obtain rfl : c1 = .int .i64 z1 := by simpa using e1
  exact ⟨⟨z0, z1⟩, rfl, w0, w1⟩
set_option maxRecDepth 100000 in
theorem opens_EvT (W : World) {r : Reach} (b0 : Nat) (v : Value) (d : DataW H) (p : List MemPlace)
  (hv : Value.okWide Try.prog W r b0 44 v) (h : DataW.Trod enc Try.prog W base spare held 44 v d p) :
  ∃ x : Option Addr × Nat × Nat × List EvT, v = .slice x.1 x.2.1 x.2.2.1 ∧ (ScriptEvT W x.1 x.2.2.2 ∧ x.2.2.2.length = x.2.1 ∧ x.2.1 ≤ 9223372036854775807 ∧ x.2.1 ≤ x.2.2.1) := by
 obtain ⟨a, len, cap, rfl⟩ := okWide_slice Try.underlying44 hv
 obtain ⟨fuel, hf⟩ := h
 have c5 : Try.prog.cellsOf 49 = 2 := by kernel_rfl
 rcases open_slice Try.underlying44 hf with ⟨hcs, _⟩ | ⟨x, l, c, m, n, D, Pl, hcs, _, hl, hm, hmm, _, hx⟩
 ·simp [Value.cells] at hcs
  obtain ⟨rfl, rfl, rfl⟩ := hcs
  exact ⟨(none, 0, 0, []), rfl, ⟨fun h => absurd rfl h, by simp⟩, rfl, by show (0 : Nat) ≤ _; omega, by show (0 : Nat) ≤ _; omega⟩
 ·simp [Value.cells] at hcs
  obtain ⟨rfl, rfl, rfl⟩ := hcs
  rw [c5] at hx
  have hlm : len ≤ m := by rw [hmm]; split <;> omega
  obtain ⟨ops, hol, hq⟩ := o_list (Q := fun i (op : EvT) => EvTOk W op ∧ ∀ j u, op.cells[j]? = some u → W.cell? (x.add (i * 2 + j)) = some u) len (fun i hi => by
   obtain ⟨cs', hc, ht⟩ := hx i (by omega)
   obtain ⟨op, rfl, hok⟩ := open_EvT ht
   obtain ⟨_, hcl, hat⟩ := World.cells?_some hc
   refine ⟨op, hok, fun j u hj => ?_⟩
   have hj5 : j < 2 := by have := (List.getElem?_eq_some_iff.1 hj).1; rw [hcl] at this; exact this
   rw [← Go.Deep.add_add, hat j hj5, hj])
  refine ⟨(some x, len, cap, ops), rfl, ⟨fun h0 => ?_, fun op hop => ?_⟩, hol, by simp only [maxLen] at hm; show len ≤ _; omega, by show len ≤ cap; omega⟩
  ·have h00 : ops.length ≠ 0 := h0
   obtain ⟨op0, hop0⟩ : ∃ op, ops[0]? = some op := ⟨_, List.getElem?_eq_getElem (by omega)⟩
   obtain ⟨b, off, spot⟩ := x
   have hc0 := (hq 0 op0 hop0).2 0 _ rfl
   have hspot : spot = none := by simpa [Addr.add] using World.cell?_spot hc0
   subst hspot
   refine ⟨b, off, rfl, fun i op hi j u hu => ?_⟩
   have := (hq i op hi).2 j u hu
   rw [o_add] at this
   rw [Nat.add_assoc]; exact this
  ·obtain ⟨i, hi, rfl⟩ := List.mem_iff_getElem.1 hop
   exact (hq i _ (List.getElem?_eq_getElem hi)).1
end
def EvT.e (u : EvT) : Int × Int := (u.f0, u.f1)
theorem script_ev {w : World} {A : Option Addr} {ops : List EvT} (h : ScriptEvT w A ops) : EvS A w (ops.map EvT.e) := fun h0 => by
 obtain ⟨b, o, e, hr⟩ := h.1 (by simpa using h0)
 refine ⟨b, o, e, fun i x hx => ?_⟩
 rw [List.getElem?_map] at hx
 cases ho : ops[i]? with
 | none => rw [ho] at hx; cases hx
 | some op =>
  rw [ho] at hx
  injection hx with hx
  subst hx
  exact hr i op ho
theorem ev_bd {w : World} {A : Option Addr} {ops : List EvT} (h : ScriptEvT w A ops) : ∀ e ∈ ops.map EvT.e, -9223372036854775808 ≤ e.2 ∧ e.2 ≤ 9223372036854775807 := fun e he => by
 obtain ⟨op, ho, rfl⟩ := List.mem_map.1 he
 have := (h.2 op ho).w1
 simp [Lit.wf, IntKind.min, IntKind.max, IntKind.signed, IntKind.bits] at this
 exact this
end Go.Proofs.Ytpbimgopiammaaa
end

section
namespace Go.Proofs.Ytpbimgopiammaaa
open Go.RowKit
set_option maxRecDepth 100000
set_option maxHeartbeats 4000000
theorem step_lines (s : Ck) (k n : Int) : (s.step k n).lines.length ≤ s.lines.length + 1 := by
 unfold Ck.step
 split
 ·show s.lines.length ≤ _; omega
 split
 ·exact mput_len _ _ _
 split
 ·split
  ·exact mput_len _ _ _
  ·show s.lines.length ≤ _; omega
 split
 ·show (s.lines.filter keepQ).length ≤ _
  have := List.length_filter_le keepQ s.lines; omega
 split
 ·show s.lines.length ≤ _; omega
 ·show ((srt (s.marked.map Prod.fst)).foldl Ck.cm1 s).lines.length ≤ _
  rw [cms_lines]; omega
theorem chk_lines (l : List (Int × Int)) : (chk l).lines.length ≤ l.length := by
 have : ∀ (l : List (Int × Int)) (s : Ck), (l.foldl (fun s e => s.step e.1 e.2) s).lines.length ≤ s.lines.length + l.length := fun l => by
  induction l with
  | nil => intro s; exact Nat.le_refl _
  | cons e l ih =>
   intro s
   have h1 := ih (s.step e.1 e.2)
   have h2 := step_lines s e.1 e.2
   rw [List.foldl_cons, List.length_cons]; omega
 have h := this l ck0
 rw [show ck0.lines.length = 0 from rfl, Nat.zero_add] at h
 exact h
theorem oLooseL (p b1 b2 : Nat) (A : Option Addr) (c : Nat) (l : List (Int × Int)) (w : World) (hE : Ents (ckE p b1 b2 A c (chk l)) w) (hm : l.length ≤ 100000) :
  Calls Try.prog 21 [ptr p].toArray w fun e w' => ∃ (A' : Option Addr) (c' : Nat), e = .returned (.slice A' (rLoose l).length c') ∧ Heap w [] [ownN 1 (.slice A' (rLoose l).length c') (rLoose l).length ((rLoose l).map (Value.int .i64)) 3] w' := by
 have hl := chk_lines l
 have h := oLoose p b1 b2 A c (chk l) w hE (by omega)
 have e : (chk l).lines.length = (rLoose l).length := by rw [← loose_eq l, srt_len, List.length_map]
 rw [loose_eq l, e] at h
 exact h
theorem walk_OrderChecks (x : Option Addr × Nat × Nat × List EvT) (w : World) (hx : ScriptEvT w x.1 x.2.2.2 ∧ x.2.2.2.length = x.2.1 ∧ x.2.1 ≤ 9223372036854775807 ∧ x.2.1 ≤ x.2.2.1) :
  Calls Try.prog 4 [.slice x.1 x.2.1 x.2.2.1].toArray w fun e w' => e = .returned (.bool true) ∧ Below w.heap.size w w' := by
 obtain ⟨A, n, c, ops⟩ := x
 obtain ⟨hs, hl, hn, hc⟩ := hx
 simp only at hs hl hn hc ⊢
 have hS := script_ev hs
 have hb := ev_bd hs
 obtain ⟨l, hll⟩ : ∃ l, ops.map EvT.e = l := ⟨_, rfl⟩
 rw [hll] at hS hb
 replace hl : l.length = n := by rw [← hll, List.length_map]; exact hl
 clear hll hs
 have H := Heap.nil w
 by_cases hbig : 80 < n
 ·refine k_in (N := 49) Try.func4 rfl rfl rfl ?_
  refine k_sg ?_
  refine s_run rfl rfl (rab rfl) ?_
  refine k_nc ?_
  refine k_seq ?_
  refine k_sg ?_
  refine s_call rfl (awake35 _) (ca17 rfl) ?_
  rintro e W1 ⟨rfl, H'⟩
  refine ⟨_, rfl, ?_⟩
  have H := H.same H'; clear H'
  refine s_run rfl rfl (r_notT rfl) ?_
  refine k_nc ?_
  refine k_f rfl ?_
  refine k_skip ?_
  refine c_norm ?_
  refine k_seq ?_
  refine k_sg ?_
  refine s_run rfl rfl (rms rfl) ?_
  refine s_run rfl rfl (r_len rfl Try.underlying44) ?_
  refine s_run rfl rfl (r_gtrT rfl rfl (by omega)) ?_
  refine k_nc ?_
  refine k_t rfl ?_
  refine k_sg ?_
  refine s_run rfl rfl (rab rfl) ?_
  refine k_nc ?_
  refine k_ret ?_
  refine c_ret ?_
  refine fin1r (v := .bool _) rfl rfl ?_
  exact ⟨rfl, H.below⟩
 ·refine k_in (N := 49) Try.func4 rfl rfl rfl ?_
  refine k_sg ?_
  refine s_run rfl rfl (rab rfl) ?_
  refine k_nc ?_
  refine k_seq ?_
  refine k_sg ?_
  refine s_call rfl (awake35 _) (ca17 rfl) ?_
  rintro e W1 ⟨rfl, H'⟩
  refine ⟨_, rfl, ?_⟩
  have H := H.same H'; clear H'
  refine s_run rfl rfl (r_notT rfl) ?_
  refine k_nc ?_
  refine k_f rfl ?_
  refine k_skip ?_
  refine c_norm ?_
  refine k_seq ?_
  refine k_sg ?_
  refine s_run rfl rfl (rms rfl) ?_
  refine s_run rfl rfl (r_len rfl Try.underlying44) ?_
  refine s_run rfl rfl (r_gtrF rfl rfl (by omega)) ?_
  refine k_nc ?_
  refine k_f rfl ?_
  refine k_skip ?_
  refine c_norm ?_
  refine k_sg ?_
  refine s_call rfl (oNew _) (ca18 rfl) ?_
  rintro e W1 ⟨p, b1, b2, rfl, H'⟩
  refine ⟨_, rfl, ?_⟩
  have H := H.more (A := [grp _]) (grp_heap H'); clear H'; simp only [List.cons_append, List.nil_append] at H
  refine s_run rfl rfl (rap rfl) ?_
  refine k_nc ?_
  refine k_seq ?_
  refine k_sg ?_
  refine s_run rfl rfl (rmp rfl) ?_
  refine s_run rfl rfl (r_ptnilF rfl rfl Try.underlying45) ?_
  refine k_nc ?_
  refine k_f rfl ?_
  refine k_skip ?_
  refine c_norm ?_
  refine k_seq ?_
  refine k_sg ?_
  refine s_run rfl rfl (rai rfl) ?_
  refine k_nc ?_
  refine k_b ?_
  refine k_loop (fun z f W => ∃ (i : Nat) (FA : Option Addr) (fc : Nat) (u : Ck), i ≤ n ∧ z = n - i ∧ u = chk (l.take i) ∧ f 0 = .slice A n c ∧ f 3 = ptr p ∧ f 4 = .int .i64 i ∧ Heap w [] [grp (ckE p b1 b2 FA fc u)] W) n ⟨0, none, 0, ck0, by omega, rfl, rfl, rfl, rfl, rfl, H⟩ ?_
  clear H
  rintro z f W ⟨i, FA, fc, u, hi, rfl, hu, f0, f3, f4, H⟩
  obtain ⟨q1, q2, q3⟩ := chk_bd l i (by omega) (by omega)
  rw [← hu] at q1 q2 q3
  by_cases hlt : i < n
  ·obtain ⟨e, he⟩ : ∃ e, l[i]? = some e := ⟨_, List.getElem?_eq_getElem (by omega)⟩
   obtain ⟨b, o, hA, hrd⟩ := hS (by omega)
   have hre := hrd i e he
   have hbe := hb e (List.mem_of_getElem? he)
   have hst : chk (l.take (i + 1)) = (chk (l.take i)).step e.1 e.2 := snoc_foldl _ _ _ _ _ he
   rw [← hu] at hst
   have hDo := fun {W : World} hE => oDo p b1 b2 FA fc u e.1 e.2 W hE (by omega) (by omega) (by omega) hbe
   rw [← hst] at hDo
   have hti : (l.take (i + 1)).length = i + 1 := by rw [List.length_take]; omega
   have hLo := fun {FA fc} {W : World} hE => oLooseL p b1 b2 FA fc (l.take (i + 1)) W hE (by omega)
   have hRf := fun {W : World} h => lRefs A (i + 1) c (l.take (i + 1)) W ((hS.take (i + 1)).later h) hti (by omega)
   have hRL := fun {A2 c2} {W : World} h => rLoose_at (F := []) A2 (i + 1) c2 (l.take (i + 1)) W h (by simp) hti (by omega)
   have hIn := fun {A2 B2 c2 d2} {W : World} h1 h2 h3 => rIntsT A2 B2 (rLoose (l.take (i + 1))).length c2 d2 (rLoose (l.take (i + 1))) W h1 h2 rfl h3
   rw [hA] at f0 hRf
   obtain ⟨f, rfl⟩ := live3 f0 f3 f4
   clear f0 f3 f4
   obtain ⟨R, hR⟩ : ∃ R, rLoose (l.take (i + 1)) = R := ⟨_, rfl⟩
   rw [hR] at hLo hRL hIn
   refine k_seq ?_
   refine k_sg ?_
   refine s_run rfl rfl (rmi rfl) ?_
   refine s_run rfl rfl (rms rfl) ?_
   refine s_run rfl rfl (r_len rfl Try.underlying44) ?_
   refine s_run rfl rfl (r_lssT rfl rfl (by omega)) ?_
   refine k_nc ?_
   refine k_t rfl ?_
   refine k_skip ?_
   refine c_norm ?_
   refine k_seq ?_
   refine k_b ?_
   refine k_sg ?_
   refine s_run rfl rfl (rmp rfl) ?_
   refine s_run rfl rfl (rms rfl) ?_
   refine s_run rfl rfl (rmi rfl) ?_
   refine s_run rfl rfl (r_ix (i := i) rfl rfl (by omega) (by omega) Try.underlying44 sz49) ?_
   refine s_run rfl rfl (r_lA (enc := fun v : Value => v) (zs := [.int .i64 e.1, .int .i64 e.2]) (hre.later H.only (by simp)) rfl rfl ag49 sz49) ?_
   refine s_call rfl (hDo (H.grp_ents 0 rfl)) (ca19 rfl) ?_
   rintro e W1 ⟨rfl, FA', fc', H'⟩
   refine ⟨_, rfl, ?_⟩
   have H := H.grp_at 0 rfl H'; clear H'; simp only [List.set_cons_zero] at H
   refine k_nc ?_
   refine k_seq ?_
   refine k_trF mixed ?_; have H' := H.drew; clear H; have H := H'; clear H'
   refine tqh 0 rfl rfl rfl (fun _ hS => r_mv (v := .pointer _) rfl) trivial ?_
   refine tqh 2 rfl rfl rfl (fun _ hS => r_mv (v := .slice _ _ _) rfl) trivial ?_
   refine tqh 3 rfl rfl rfl (fun _ hS => r_mv (v := .int _ _) rfl) trivial ?_
   refine tqh 4 rfl rfl rfl (fun _ hS => r_add rfl rfl (wI (by omega))) trivial ?_
   refine tqh 5 rfl rfl rfl (fun _ hS => r_shiA (j := i + 1) rfl rfl (by omega) (by omega) Try.underlying44 sz49) trivial ?_
   refine t_up1 1 (by kernel_rfl) ?_
   refine up_mk rfl ?_
   refine s_call rfl (hLo (H.grp_ents 0 rfl)) (ca21 rfl) ?_
   rintro e W1 ⟨LA, lc, rfl, H'⟩
   refine ⟨_, rfl, ?_⟩
   (first | replace hDS := hDS.later H'.only (by simp) | skip); have H := H.more H'; clear H'; simp only [List.cons_append, List.nil_append] at H
   refine k_nil ?_
   refine t_on trivial ?_
   refine t_up1 6 (by kernel_rfl) ?_
   refine up_mk rfl ?_
   refine s_call rfl (hRf H.only) (ca23 rfl) ?_
   rintro e W1 ⟨RA, rc, rfl, hrc, H'⟩
   refine ⟨_, rfl, ?_⟩
   have H := H.more H'; clear H'; simp only [List.cons_append, List.nil_append] at H
   refine k_nil ?_
   refine t_on trivial ?_
   refine t_up1 7 (by kernel_rfl) ?_
   refine up_mk rfl ?_
   refine s_call rfl (hRL (ev_own H 0 rfl)) (ca22 rfl) ?_
   rintro e W1 ⟨DA, dc, rfl, hdl, hDS, H'⟩
   refine ⟨_, rfl, ?_⟩
   have H := H.same H'; clear H'
   refine k_nil ?_
   refine t_on trivial ?_
   refine t_up1 8 (by kernel_rfl) ?_
   refine up_mk rfl ?_
   refine s_call rfl (hIn (H.own_sees 1 rfl) hDS (by omega)) (ca20 rfl) ?_
   rintro e W1 ⟨rfl, H'⟩
   refine ⟨_, rfl, ?_⟩
   have H := H.same H'; clear H'
   refine k_nil ?_
   refine t_on trivial ?_
   refine tqh 9 rfl rfl rfl (fun _ hS => r_notT rfl) trivial ?_
   refine t_done (by kernel_rfl) ?_
   refine c_norm ?_
   refine k_f rfl ?_
   refine k_skip ?_
   refine b_norm ?_
   refine c_norm ?_
   refine k_rg ?_
   refine s_run rfl rfl (rmi rfl) ?_
   refine s_run rfl rfl (r_add rfl rfl (wI (by omega))) ?_
   refine s_run rfl rfl (rai rfl) ?_
   refine k_nil ?_
   refine c_round ?_
   exact ⟨_, _, by omega, rfl, i + 1, FA', fc', _, by omega, rfl, rfl, by rw [hA]; rfl, rfl, rfl, H.drop.drop⟩
  ·obtain rfl : i = n := by omega
   have et : l.take i = l := by rw [← hl]; exact List.take_length
   rw [et] at hu
   subst hu
   have hFa := fun {W : World} hE => oFaults p b1 b2 FA fc (chk l) W hE (by omega)
   have hRf := fun {W : World} h => lRefs A i c l W (hS.later h) hl (by omega)
   have hCk := fun {A2 c2} {W : World} h h2 => rCheck_at A2 i c2 l W h hl h2 (by omega)
   have hOC := fun {W : World} h => oCheck A i c l W h hl (by omega) hb
   have hSm := fun {A2 B2 c2 d2} {W : World} h1 h2 => lSame A2 B2 (chk l).faults.length c2 d2 (chk l).faults W h1 h2 rfl (by omega)
   obtain ⟨f, rfl⟩ := live3 f0 f3 f4
   clear f0 f3 f4
   refine k_seq ?_
   refine k_sg ?_
   refine s_run rfl rfl (rmi rfl) ?_
   refine s_run rfl rfl (rms rfl) ?_
   refine s_run rfl rfl (r_len rfl Try.underlying44) ?_
   refine s_run rfl rfl (r_lssF rfl rfl (by omega)) ?_
   refine k_nc ?_
   refine k_f rfl ?_
   refine k_exit ?_
   refine c_exit ?_
   refine c_exit ?_
   refine b_hit ?_
   refine c_norm ?_
   refine k_sg ?_
   refine s_run rfl rfl (rms rfl) ?_
   refine s_call rfl (hRf H.only) (ca23 rfl) ?_
   rintro e W1 ⟨RA, rc, rfl, hrc, H'⟩
   refine ⟨_, rfl, ?_⟩
   have H := H.more H'; clear H'; simp only [List.cons_append, List.nil_append] at H
   refine s_call rfl (hCk (ev_own H 0 rfl) hrc) (ca24 rfl) ?_
   rintro e W1 ⟨WA, wc, rfl, H'⟩
   refine ⟨_, rfl, ?_⟩
   have H := H.more H'; clear H'; simp only [List.cons_append, List.nil_append] at H
   refine s_run rfl rfl (ras rfl) ?_
   refine k_nc ?_
   refine k_sg ?_
   refine s_run rfl rfl (rmp rfl) ?_
   refine s_call rfl (hFa (H.grp_ents 2 rfl)) (ca26 rfl) ?_
   rintro e W1 ⟨GA, gc, rfl, H'⟩
   refine ⟨_, rfl, ?_⟩
   have H := H.more H'; clear H'; simp only [List.cons_append, List.nil_append] at H
   refine s_run rfl rfl (rms rfl) ?_
   refine s_call rfl (hSm (own_seesC H 0 rfl) (own_seesC H 1 rfl)) (ca25 rfl) ?_
   rintro e W1 ⟨rfl, H'⟩
   refine ⟨_, rfl, ?_⟩
   have H := H.same H'; clear H'
   refine s_run rfl rfl (rmb rfl) ?_
   refine s_run rfl (g_on 43 (by kernel_rfl) rfl) (rms rfl) ?_
   refine s_call (g_on 43 (by kernel_rfl) rfl) (hOC (hS.later H.only)) (ca27 rfl) ?_
   rintro e W1 ⟨KA, kc, rfl, H'⟩
   refine ⟨_, rfl, ?_⟩
   have H := H.more H'; clear H'; simp only [List.cons_append, List.nil_append] at H
   refine s_run rfl (g_on 43 (by kernel_rfl) rfl) (rms rfl) ?_
   refine s_call (g_on 43 (by kernel_rfl) rfl) (hSm (own_seesC H 0 rfl) (own_seesC H 2 rfl)) (ca25 rfl) ?_
   rintro e W1 ⟨rfl, H'⟩
   refine ⟨_, rfl, ?_⟩
   have H := H.same H'; clear H'
   refine s_run rfl rfl (r_pkT (v := .bool _) rfl rfl) ?_
   refine s_run rfl rfl (rab rfl) ?_
   refine k_nc ?_
   refine k_ret ?_
   refine fin1r (v := .bool _) rfl rfl ?_
   exact ⟨rfl, H.below⟩
end Go.Proofs.Ytpbimgopiammaaa
end

section
namespace Go.Proofs.Ytpbimgopiammaaa.lOrderChecks
open Go.ChangeShapes Go.WideShapes Go.ChangeAt Go.RowKit
theorem own : ownKnob Try.prog.godebug = none := by kernel_rfl
theorem laidOut : laidOutB Try.prog = true := by kernel_rfl
set_option maxRecDepth 100000 in
theorem lifted (os : Os) (started : os.Started) (H : Type) (enc : TypeId × Value → H) :
  ReturnsInHanded {} Try.checked os 4 .any (Rows.orderChecksSpec.pre6 enc Try.prog Try.f4 Rows.orderChecksRow.domain false) (Rows.orderChecksSpec.post enc Try.prog Try.f4 false true false false) := by
 refine returnsInHanded_of_change (C := Try.checked) own started (by kernel_rfl) Try.func4
  (ChangeSpec.witness6 (enc := enc) (C := Try.checked) false ⟨#[], #[.slice none 0 0], []⟩ 8 (by kernel_rfl) (by kernel_rfl) (by kernel_rfl) (by kernel_rfl)) ?_
 intro W base args ds gs before hval0 hW hcnd _
 have hval : ∀ (j : Nat) t v, Try.f4.params[j]? = some t → args[j]? = some v → Value.okWide Try.prog W .any base t v := hval0
 have hW' := hW
 obtain ⟨p, q, hA0, hV, rfl, hfz, hnd⟩ := hW
 have hA : DataW.TrodAll enc Try.prog W 0 (fun _ => true) true Try.f4.params.toList args.toList ds p := hA0
 rw [Try.params4] at hA hval
 obtain ⟨v0, vs0, d0, ds0, p0, q0, hargs, rfl, rfl, h0, r0⟩ := trodAll_cons hA
 obtain ⟨rfl, rfl, rfl⟩ := trodAll_nil r0
 obtain rfl : args = #[v0] := by cases args; simp_all
 obtain ⟨rfl, rfl⟩ := trodVars_none hV
 have k0 := h0
 have lt0 : ∀ x ∈ p0, x.block < W.heap.size := by obtain ⟨m, hm⟩ := k0; exact DataW.trod_lt m _ _ _ hm
 obtain ⟨x0, rfl, w0⟩ := opens_EvT W base v0 d0 p0 (hval 0 44 v0 rfl rfl) h0
 clear hA0 hval0
 refine (walk_OrderChecks x0 W w0).mono fun e W' ⟨he, bel⟩ => ?_
 subst he
 exact ⟨_, rfl, _, _, _, [], _, [], hW', trodAll_mk1 (shut_bool Try.underlying4 _), (trodAll_cons_mk (Below.trod laidOut (by kernel_rfl) (of_decide_eq_true (by kernel_rfl)) k0 bel lt0) trodAll_mk0), rfl, bel.frame _, fun h => by cases h⟩
theorem over : Rows.orderChecksRow.holds Try.pinned (OpenSpec.ofChange Rows.orderChecksSpec) :=
 OpenClaim.holds_of_wide 4 Try.f4 rfl rfl rfl rfl rfl rfl rfl ⟨rfl, rfl, rfl, rfl, rfl⟩ rfl rfl rfl rfl rfl (by kernel_rfl) Try.func4 (by kernel_rfl)
  (of_decide_eq_true (by kernel_rfl)) (by unfold Func.isWrapper; first | (rw [if_pos (by decide +kernel)]; kernel_rfl) | (rw [if_neg (by decide +kernel)]; exact ⟨rfl, rfl⟩))
  (fun os started H enc _ => lifted os started H enc)
theorem proved : Rows.OrderChecksSaid := over
#print axioms proved
end Go.Proofs.Ytpbimgopiammaaa.lOrderChecks
end
