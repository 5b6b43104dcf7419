/- NvmLasts. -/
import Derived.Test.YtmekhdclnhhhbaaLw9
import Derived.Test.YtmekhdclnhhhbaaPNv3
namespace Go.Proofs.Ytmekhdclnhhhbaa
open Go.RowKit
set_option linter.unusedSimpArgs false
set_option linter.unusedVariables false
theorem inv_doD {d : Nv.D} {m : Nat} (h : Nv.Inv d m) (k a n v : Int) (cs : List Int) : Nv.Inv (doD d m k a n v cs) m := by
  unfold doD
  split
  · exact h.store a v
  split
  · exact h.flush a
  split
  · exact h.fence
  split
  · exact h.evict a
  split
  · exact h.persist a n
  split
  · exact h.arm n
  split
  · exact Nv.Inv.load _ m (Nv.crashTo_len h.ok cs _)
  · exact h
theorem inv_playTo {d : Nv.D} {m : Nat} (h : Nv.Inv d m) (ops : List OpS) : ∀ k, Nv.Inv (playTo d m ops k) m
  | 0 => h
  | k + 1 => by
    have ih := inv_playTo h ops k
    rw [playTo]
    split
    · exact inv_doD ih _ _ _ _ _
    · exact ih
theorem lPlayedI (A : Option Addr) (n c : Nat) (zs : List Int) (B : Option Addr) (q cq : Nat) (ops : List OpS) (w : World) (hz : Sees (Value.int .u64) w [] A zs) (lz : zs.length = n) (hn : n ≤ 200) (hs : Script w B ops) (hl : ops.length = q) (hq : q ≤ 60) (hnc : ∀ op ∈ ops, op.nc ≤ 100) :
    Calls Try.prog 36 [.slice A n c, .slice B q cq].toArray w fun e w' => ∃ g s d, e = .returned (.tuple #[ptr g.p, .agg (refCells s d ((n + 7) / 8)).toArray, .bool true]) ∧ Heap w [] (devL g d) w' ∧ Nv.Inv d ((n + 7) / 8) ∧ GOk g ((n + 7) / 8) := by
  refine (lPlayed A n c zs B q cq ops w hz lz hn hs hl hq hnc).mono ?_
  rintro e w' ⟨g, s, he, H, _, hg⟩
  refine ⟨g, s, _, he, H, inv_playTo ?_ ops q, hg⟩
  unfold start
  rw [lz]
  exact Nv.Inv.load _ _ (by rw [List.length_append, lz, List.length_replicate]; omega)
theorem get_of {l : List Int} {x : Int} {m : Nat} (hl : l.length = 8 * m) (h0 : 0 ≤ x) (h1 : x < 8 * (m : Int)) : Nv.get l x = l.getD x.toNat 0 := by
  unfold Nv.get
  rw [if_pos (by omega)]
theorem persist_range {d : Nv.D} {m : Nat} {a n : Int} (hz : (Nv.persist d m a n).2 = 0) : 0 ≤ a ∧ 0 ≤ n ∧ a + n ≤ 8 * (m : Int) := by
  unfold Nv.persist at hz
  split at hz
  · cases hz
  · omega
theorem live7 {f : Nat → Value} {k1 k2 k3 k4 k5 k6 k7 : Nat} {v1 v2 v3 v4 v5 v6 v7 : Value} (h1 : f k1 = v1) (h2 : f k2 = v2) (h3 : f k3 = v3) (h4 : f k4 = v4) (h5 : f k5 = v5) (h6 : f k6 = v6) (h7 : f k7 = v7) : ∃ g, f = upd (upd (upd (upd (upd (upd (upd g k1 v1) k2 v2) k3 v3) k4 v4) k5 v5) k6 v6) k7 v7 := ⟨f, by rw [upd_same h1, upd_same h2, upd_same h3, upd_same h4, upd_same h5, upd_same h6, upd_same h7]⟩
theorem rep_set (m k : Nat) (hk : k < m) : (List.replicate k (2 : Int) ++ List.replicate (m - k) 0).set k 2 = List.replicate (k + 1) 2 ++ List.replicate (m - (k + 1)) 0 := by
  rw [List.set_append, if_neg (by simp)]
  rw [show m - k = (m - (k + 1)) + 1 by omega, List.replicate_succ, List.length_replicate, Nat.sub_self, List.set_cons_zero, List.replicate_succ', List.append_assoc]
  rfl
section
open Go.ChangeShapes Go.WideShapes Go.Deep
set_option maxRecDepth 100000 in
theorem open_opv {H : Type} {enc : TypeId × Value → H} {base : Nat} {spare : Nat → Bool} {held : Bool} (W : World) {r : Reach} (b0 : Nat) (v : Value) (d : DataW H) (p : List MemPlace)
    (hv : Value.okWide Try.prog W r b0 51 v) (h : DataW.Trod enc Try.prog W base spare held 51 v d p) :
    ∃ op : OpS, v = opV op.k op.a op.n op.v op.A op.nc op.cc ∧ OpOk W op := by
  obtain ⟨cs, rfl, hsz⟩ := okWide_struct Try.underlying51 hv
  obtain ⟨fuel, hf⟩ := h
  obtain ⟨op, hcs, hok⟩ := open_op hf
  refine ⟨op, ?_, hok⟩
  have e : cs.toList = op.cells := hcs
  unfold opV
  congr 1
  apply Array.toList_inj.1
  exact e
end
theorem walk_NvmLasts (A : Option Addr) (n c : Nat) (zs : List Int) (x : Option Addr × Nat × Nat × List OpS) (u : OpS) (w : World) (hr : IsRow .u64 w A n c zs) (hx : Script w x.1 x.2.2.2 ∧ x.2.2.2.length = x.2.1 ∧ x.2.1 ≤ 9223372036854775807) (hu : OpOk w u) :
    Calls Try.prog 7 [.slice A n c, .slice x.1 x.2.1 x.2.2.1, opV u.k u.a u.n u.v u.A u.nc u.cc].toArray w fun e w' => e = .returned (.bool true) ∧ Below w.heap.size w w' := by
  obtain ⟨B, q, cq, ops⟩ := x
  obtain ⟨hs, hl, hq⟩ := hx
  dsimp only at hs hl hq ⊢
  have hun := hu.n1
  have hnc1 := hu.ncb
  obtain ⟨hz, lz, hnc, hcm, _⟩ := row_words hr
  have hn : n ≤ 9223372036854775807 := by simp only [maxLen] at hcm; omega
  have H := Heap.nil w
  have hF := fun W hs => lFew A n c B q cq ops W hs hl hn hq
  unfold opV
  by_cases hf : fewB n q ops = true
  · have hf2 : n ≤ 200 ∧ q ≤ 60 ∧ ∀ op ∈ ops, op.nc ≤ 100 := of_decide_eq_true hf
    rw [hf] at hF
    by_cases hcc : 100 < u.nc
    · refine k_in (N := 117) Try.func7 rfl rfl rfl ?_
      refine k_seq ?_
      refine k_rg ?_
      refine s_box H rfl rfl ?_
      intro p5 _ H'; clear H; have H := H'; clear H'
      refine s_run rfl rfl (r_as (v := .bool _) rfl) ?_
      refine k_nil ?_
      refine c_norm ?_
      refine k_seq ?_
      refine k_seq ?_
      refine k_rg ?_
      refine s_call rfl (lAwake _) (ca20 rfl) ?_
      rintro e W1 ⟨rfl, H'⟩
      refine ⟨_, rfl, ?_⟩
      have H := H.same H'; clear H'
      refine s_run rfl rfl (r_notT rfl) ?_
      refine k_nil ?_
      refine c_norm ?_
      refine k_f rfl ?_
      refine k_skip ?_
      refine c_norm ?_
      refine k_seq ?_
      refine k_q mixed (by kernel_rfl) H ?_
      refine q_run rfl rfl (fun _ H => r_fa0 rfl fo51_1) ?_
      refine q_run rfl rfl (fun _ H => r_lo H 0 rfl rfl rfl ag3) ?_
      refine q_run rfl rfl (fun _ H => r_fa0 rfl fo51_2) ?_
      refine q_run rfl rfl (fun _ H => r_lo H 0 rfl rfl rfl ag3) ?_
      refine q_run rfl rfl (fun _ H => r_fa0 rfl fo51_4) ?_
      refine q_run rfl rfl (fun _ H => r_lo H 0 rfl rfl rfl ag49) ?_
      refine q_run rfl rfl (fun _ H => r_as (v := .int _ _) rfl) ?_
      refine q_run rfl rfl (fun _ H => r_as (v := .int _ _) rfl) ?_
      refine q_run rfl rfl (fun _ H => r_as (v := .slice _ _ _) rfl) ?_
      refine q_nil ?_
      intro _ H'; clear H; have H := H'; clear H'
      refine c_norm ?_
      refine k_seq ?_
      refine k_seq ?_
      refine k_rg ?_
      refine s_run rfl rfl (r_mv (v := .slice _ _ _) rfl) ?_
      refine s_run rfl rfl (r_mv (v := .slice _ _ _) rfl) ?_
      refine s_call rfl (hF _ (hs.later H.only)) (ca31 rfl) ?_
      rintro e W1 ⟨rfl, H'⟩
      refine ⟨_, rfl, ?_⟩
      have H := H.same H'; clear H'
      refine s_run rfl rfl (r_notT rfl) ?_
      refine s_run rfl rfl (r_mv (v := .bool _) rfl) ?_
      refine s_run rfl (g_on 32 (by kernel_rfl) rfl) (r_mv (v := .slice _ _ _) rfl) ?_
      refine s_run rfl (g_on 32 (by kernel_rfl) rfl) (r_len rfl Try.underlying49) ?_
      refine s_run rfl (g_on 32 (by kernel_rfl) rfl) (r_gtrT rfl rfl (by omega)) ?_
      refine s_run rfl rfl (r_pkF (v := .bool _) rfl rfl) ?_
      refine k_nil ?_
      refine c_norm ?_
      refine k_t rfl ?_
      refine k_seq ?_
      refine k_rg ?_
      refine s_run rfl rfl (r_as (v := .bool _) rfl) ?_
      refine k_nil ?_
      refine c_norm ?_
      refine k_ret ?_
      refine c_ret ?_
      refine fin1r (v := .bool _) rfl rfl ?_
      exact ⟨rfl, H.only.below⟩
    · have hP := fun W a b => lPlayedI A n c (zs.take n) B q cq ops W a lz hf2.1 b hl hf2.2.1 hf2.2.2
      have hm : (n + 7) / 8 ≤ 30 := by omega
      generalize (n + 7) / 8 = m at *
      refine k_in (N := 117) Try.func7 rfl rfl rfl ?_
      refine k_seq ?_
      refine k_rg ?_
      refine s_box H rfl rfl ?_
      intro p5 _ H'; clear H; have H := H'; clear H'
      refine s_run rfl rfl (r_as (v := .bool _) rfl) ?_
      refine k_nil ?_
      refine c_norm ?_
      refine k_seq ?_
      refine k_seq ?_
      refine k_rg ?_
      refine s_call rfl (lAwake _) (ca20 rfl) ?_
      rintro e W1 ⟨rfl, H'⟩
      refine ⟨_, rfl, ?_⟩
      have H := H.same H'; clear H'
      refine s_run rfl rfl (r_notT rfl) ?_
      refine k_nil ?_
      refine c_norm ?_
      refine k_f rfl ?_
      refine k_skip ?_
      refine c_norm ?_
      refine k_seq ?_
      refine k_q mixed (by kernel_rfl) H ?_
      refine q_run rfl rfl (fun _ H => r_fa0 rfl fo51_1) ?_
      refine q_run rfl rfl (fun _ H => r_lo H 0 rfl rfl rfl ag3) ?_
      refine q_run rfl rfl (fun _ H => r_fa0 rfl fo51_2) ?_
      refine q_run rfl rfl (fun _ H => r_lo H 0 rfl rfl rfl ag3) ?_
      refine q_run rfl rfl (fun _ H => r_fa0 rfl fo51_4) ?_
      refine q_run rfl rfl (fun _ H => r_lo H 0 rfl rfl rfl ag49) ?_
      refine q_run rfl rfl (fun _ H => r_as (v := .int _ _) rfl) ?_
      refine q_run rfl rfl (fun _ H => r_as (v := .int _ _) rfl) ?_
      refine q_run rfl rfl (fun _ H => r_as (v := .slice _ _ _) rfl) ?_
      refine q_nil ?_
      intro _ H'; clear H; have H := H'; clear H'
      refine c_norm ?_
      refine k_seq ?_
      refine k_seq ?_
      refine k_rg ?_
      refine s_run rfl rfl (r_mv (v := .slice _ _ _) rfl) ?_
      refine s_run rfl rfl (r_mv (v := .slice _ _ _) rfl) ?_
      refine s_call rfl (hF _ (hs.later H.only)) (ca31 rfl) ?_
      rintro e W1 ⟨rfl, H'⟩
      refine ⟨_, rfl, ?_⟩
      have H := H.same H'; clear H'
      refine s_run rfl rfl (r_notT rfl) ?_
      refine s_run rfl rfl (r_mv (v := .bool _) rfl) ?_
      refine s_run rfl (g_on 32 (by kernel_rfl) rfl) (r_mv (v := .slice _ _ _) rfl) ?_
      refine s_run rfl (g_on 32 (by kernel_rfl) rfl) (r_len rfl Try.underlying49) ?_
      refine s_run rfl (g_on 32 (by kernel_rfl) rfl) (r_gtrF rfl rfl (by omega)) ?_
      refine s_run rfl rfl (r_pkF (v := .bool _) rfl rfl) ?_
      refine k_nil ?_
      refine c_norm ?_
      refine k_f rfl ?_
      refine k_skip ?_
      refine c_norm ?_
      refine k_seq ?_
      refine k_rg ?_
      refine s_run rfl rfl (r_mv (v := .slice _ _ _) rfl) ?_
      refine s_run rfl rfl (r_mv (v := .slice _ _ _) rfl) ?_
      refine s_call rfl (hP _ (hz.later H.only (by simp)) (hs.later H.only)) (ca36 rfl) ?_
      rintro e W1 ⟨g, s, d, rfl, H', hI, hg⟩
      refine ⟨_, rfl, ?_⟩
      have H := H.more (A := [grp _]) (grp_heap H'); clear H'; simp only [List.cons_append, List.nil_append] at H; simp only [refE]; have hLi := nLines g d; rw [hI.ok.hd] at hLi
      refine s_run rfl rfl (r_mv (v := .tuple _) rfl) ?_
      refine s_run rfl rfl (r_ext (v := .pointer _) rfl rfl) ?_
      refine s_run rfl rfl (r_ext (v := .agg _) rfl rfl) ?_
      refine s_run rfl rfl (r_ext (v := .bool _) rfl rfl) ?_
      refine s_al H rfl inf55 ?_
      intro p11 _ H'; clear H; have H := H'; clear H'
      refine s_run rfl rfl (r_as (v := .pointer _) rfl) ?_
      refine s_sw H 0 rfl rfl rfl rfl rfl rfl rfl sz55 ?_
      intro _ H'; simp only [List.set_cons_zero, List.set_cons_succ, List.take_succ_cons, List.take_zero, List.drop_succ_cons, List.drop_zero, List.cons_append, List.nil_append, List.append_nil, List.length_cons, List.length_nil, Nat.reduceAdd] at H'; clear H; have H := H'; clear H'
      refine s_run rfl rfl (r_as (v := .bool _) rfl) ?_
      refine k_nil ?_
      refine c_norm ?_
      refine k_seq ?_
      refine k_seq ?_
      refine k_rg ?_
      refine s_run rfl rfl (r_mv (v := .bool _) rfl) ?_
      refine s_run rfl rfl (r_notT rfl) ?_
      refine k_nil ?_
      refine c_norm ?_
      refine k_f rfl ?_
      refine k_skip ?_
      refine c_norm ?_
      refine k_seq ?_
      refine k_rg ?_
      refine s_run rfl rfl (r_mv (v := .pointer _) rfl) ?_
      refine s_call rfl (hLi _ (H.grp_ents 1 rfl)) (ca23 rfl) ?_
      rintro e W1 ⟨rfl, H'⟩
      refine ⟨_, rfl, ?_⟩
      have H := H.same H'; clear H'
      refine s_mk (Value.int .u8) 0 (m := m) H rfl rfl rfl (by omega) (by omega) (by omega) Try.underlying49 inf5 rfl ?_
      intro bk _ H'; clear H; have H := H'; clear H'
      refine s_run rfl rfl (r_as (v := .slice _ _ _) rfl) ?_
      refine k_nil ?_
      refine c_norm ?_
      refine k_seq ?_
      refine k_seq ?_
      refine k_rg ?_
      refine s_run rfl rfl (r_as (v := .int _ _) rfl) ?_
      refine k_nil ?_
      refine c_norm ?_
      refine k_b ?_
      have hok := hI.ok
      refine k_loop (fun z f W => ∃ k : Nat, k ≤ m ∧ z = m - k ∧ f 7 = .int .i64 u.a ∧ f 8 = .int .i64 u.n ∧ f 9 = .slice u.A u.nc u.cc ∧ f 10 = ptr g.p ∧ f 13 = .slice (some ⟨bk, 0, none⟩) m m ∧ f 14 = .int .i64 k ∧ Heap w [] [vec (Value.int .u8) bk (List.replicate k 2 ++ List.replicate (m - k) 0) 5, blk p11 (refCells s d m) 55, grp (devL g d), blk p5 u.cells 51] W) m ⟨0, by omega, rfl, rfl, rfl, rfl, rfl, rfl, rfl, H⟩ ?_
      clear H
      rintro z f W ⟨k, hk, rfl, f7, f8, f9, f10, f13, f14, H⟩
      obtain ⟨f, rfl⟩ := live6 f7 f8 f9 f10 f13 f14
      clear f7 f8 f9 f10 f13 f14
      by_cases hlt : k < m
      · have hlen8 : k < (List.replicate k (2 : Int) ++ List.replicate (m - k) 0).length := by rw [List.length_append, List.length_replicate, List.length_replicate]; omega
        refine k_seq ?_
        refine k_seq ?_
        refine k_rg ?_
        refine s_run rfl rfl (r_mv (v := .int _ _) rfl) ?_
        refine s_run rfl rfl (r_mv (v := .slice _ _ _) rfl) ?_
        refine s_run rfl rfl (r_len rfl Try.underlying49) ?_
        refine s_run rfl rfl (r_lssT rfl rfl (by omega)) ?_
        refine k_nil ?_
        refine c_norm ?_
        refine k_t rfl ?_
        refine k_skip ?_
        refine c_norm ?_
        refine k_seq ?_
        refine k_b ?_
        refine k_rg ?_
        refine s_run rfl rfl (r_mv (v := .slice _ _ _) rfl) ?_
        refine s_run rfl rfl (r_mv (v := .int _ _) rfl) ?_
        refine s_run rfl rfl (r_ix1 (i := k) rfl rfl (by omega) (by omega) Try.underlying49 sz5) ?_
        refine s_sv (u := .int _ _) H 0 rfl rfl rfl rfl rfl hlen8 (fun _ => rfl) sz5 ?_
        intro _ H'; simp only [List.set_cons_zero, List.set_cons_succ, List.take_succ_cons, List.take_zero, List.drop_succ_cons, List.drop_zero, List.cons_append, List.nil_append, List.append_nil, List.length_cons, List.length_nil, Nat.reduceAdd] at H'; clear H; have H := H'; clear H'
        refine k_nil ?_
        refine b_norm ?_
        refine c_norm ?_
        refine k_rg ?_
        refine s_run rfl rfl (r_mv (v := .int _ _) rfl) ?_
        refine s_run rfl rfl (r_add rfl rfl (wI (by omega))) ?_
        refine s_run rfl rfl (r_as (v := .int _ _) rfl) ?_
        refine k_nil ?_
        refine c_round ?_
        rw [rep_set m k hlt] at H
        refine ⟨_, _, ?_, rfl, k + 1, by omega, rfl, rfl, rfl, rfl, rfl, rfl, rfl, H⟩
        omega
      · obtain rfl : k = m := by omega
        rw [Nat.sub_self, List.replicate_zero, List.append_nil] at H
        have hC1 := fun W hE hz => nCrash g d k (some ⟨bk, 0, none⟩) k k (List.replicate k 2) W hE hok hg (by omega) hz (by simp) (by intro z hz; rw [(List.mem_replicate.1 hz).2]; decide) (by omega)
        have hC2 := fun W hE => nCrash g d k none 0 0 [] W hE hok hg (by omega) Sees.nil rfl (by simp) (by omega)
        have hl1 := Nv.crashTo_len hok (List.replicate k 2) (Nv.dirtyTo d.dirty k).length
        have hk1 := Nv.crash_kept hI
        rw [Nv.crash_none] at hC2
        generalize Nv.crashTo d (Nv.dirtyTo d.dirty k) (List.replicate k 2) (Nv.dirtyTo d.dirty k).length = L1 at *
        refine k_seq ?_
        refine k_seq ?_
        refine k_rg ?_
        refine s_run rfl rfl (r_mv (v := .int _ _) rfl) ?_
        refine s_run rfl rfl (r_mv (v := .slice _ _ _) rfl) ?_
        refine s_run rfl rfl (r_len rfl Try.underlying49) ?_
        refine s_run rfl rfl (r_lssF rfl rfl (by omega)) ?_
        refine k_nil ?_
        refine c_norm ?_
        refine k_f rfl ?_
        refine k_exit ?_
        refine c_exit ?_
        refine c_exit ?_
        refine b_hit ?_
        refine c_norm ?_
        refine k_seq ?_
        refine k_rg ?_
        refine s_run rfl rfl (r_mv (v := .pointer _) rfl) ?_
        refine s_run rfl rfl (r_mv (v := .slice _ _ _) rfl) ?_
        refine s_call rfl (hC1 _ (H.grp_ents 2 rfl) (H.sees (m := 1) 0 rfl (by simp) (fun _ => rfl) (by simp))) (ca37 rfl) ?_
        rintro e W1 ⟨g1, rfl, hg1, H'⟩
        refine ⟨_, rfl, ?_⟩
        have H := H.more (A := [grp _]) (grp_heap H'); clear H'; simp only [List.cons_append, List.nil_append] at H
        refine s_run rfl rfl (r_mv (v := .pointer _) rfl) ?_
        refine s_call rfl (hC2 _ (H.grp_ents 3 rfl)) (ca37 rfl) ?_
        rintro e W1 ⟨g2, rfl, hg2, H'⟩
        refine ⟨_, rfl, ?_⟩
        have H := H.more (A := [grp _]) (grp_heap H'); clear H'; simp only [List.cons_append, List.nil_append] at H
        refine s_run rfl rfl (r_as (v := .pointer _) rfl) ?_
        refine s_run rfl rfl (r_as (v := .pointer _) rfl) ?_
        refine k_nil ?_
        refine c_norm ?_
        refine k_seq ?_
        refine k_seq ?_
        refine k_rg ?_
        refine s_run rfl rfl (r_as (v := .int _ _) rfl) ?_
        refine k_nil ?_
        refine c_norm ?_
        refine k_b ?_
        refine k_loop (fun z f W => ∃ i : Nat, i ≤ 8 * k ∧ z = 8 * k - i ∧ f 7 = .int .i64 u.a ∧ f 8 = .int .i64 u.n ∧ f 9 = .slice u.A u.nc u.cc ∧ f 10 = ptr g.p ∧ f 15 = ptr g1.p ∧ f 16 = ptr g2.p ∧ f 17 = .int .i64 i ∧ Heap w [] [grp (devL g2 (Nv.load d.last k)), grp (devL g1 (Nv.load L1 k)), vec (Value.int .u8) bk (List.replicate k 2) 5, blk p11 (refCells s d k) 55, grp (devL g d), blk p5 u.cells 51] W) (8 * k) ⟨0, by omega, rfl, rfl, rfl, rfl, rfl, rfl, rfl, rfl, H⟩ ?_
        clear H
        rintro z f W ⟨i, hi, rfl, f7, f8, f9, f10, f15, f16, f17, H⟩
        obtain ⟨f, rfl⟩ := live7 f7 f8 f9 f10 f15 f16 f17
        clear f7 f8 f9 f10 f15 f16 f17
        have hLe := nLen g d
        rw [hok.hc] at hLe
        by_cases hlt2 : i < 8 * k
        · have hc := hok.hc
          have e1 : Nv.get L1 i = Nv.get d.cache i := by
            rw [get_of hl1 (by omega) (by omega), get_of hok.hc (by omega) (by omega)]; exact hk1 _ (by omega)
          have hG1 := nGet g1 (Nv.load L1 k) i
          have hG2 := nGet g2 (Nv.load d.last k) i
          have e2 : Nv.get (Nv.load L1 k).cache i = Nv.get d.cache i := e1
          have e3 : Nv.get (Nv.load d.last k).cache i = Nv.get d.last i := rfl
          rw [e2] at hG1
          rw [e3] at hG2
          refine k_seq ?_
          refine k_seq ?_
          refine k_rg ?_
          refine s_run rfl rfl (r_mv (v := .int _ _) rfl) ?_
          refine s_run rfl rfl (r_mv (v := .pointer _) rfl) ?_
          refine s_call rfl (hLe _ (H.grp_ents 4 rfl)) (ca24 rfl) ?_
          rintro e W1 ⟨rfl, H'⟩
          refine ⟨_, rfl, ?_⟩
          have H := H.same H'; clear H'
          refine s_run rfl rfl (r_lssT rfl rfl (by omega)) ?_
          refine k_nil ?_
          refine c_norm ?_
          refine k_t rfl ?_
          refine k_skip ?_
          refine c_norm ?_
          refine k_seq ?_
          refine k_b ?_
          refine k_seq ?_
          refine k_rg ?_
          refine s_run rfl rfl (r_mv (v := .pointer _) rfl) ?_
          refine s_run rfl rfl (r_mv (v := .int _ _) rfl) ?_
          refine s_call rfl (hG1 _ (H.grp_ents 1 rfl)) (ca25 rfl) ?_
          rintro e W1 ⟨rfl, H'⟩
          refine ⟨_, rfl, ?_⟩
          have H := H.same H'; clear H'
          refine s_run rfl rfl (r_mv (v := .pointer _) rfl) ?_
          refine s_run rfl rfl (r_mv (v := .int _ _) rfl) ?_
          refine s_call rfl (nGet g d i _ (H.grp_ents 4 rfl)) (ca25 rfl) ?_
          rintro e W1 ⟨rfl, H'⟩
          refine ⟨_, rfl, ?_⟩
          have H := H.same H'; clear H'
          refine s_run rfl rfl (r_neqF rfl rfl (by omega)) ?_
          refine s_run rfl rfl (r_mv (v := .bool _) rfl) ?_
          refine s_run rfl (g_on 76 (by kernel_rfl) rfl) (r_mv (v := .pointer _) rfl) ?_
          refine s_run rfl (g_on 76 (by kernel_rfl) rfl) (r_mv (v := .int _ _) rfl) ?_
          refine s_call (g_on 76 (by kernel_rfl) rfl) (hG2 _ (H.grp_ents 0 rfl)) (ca25 rfl) ?_
          rintro e W1 ⟨rfl, H'⟩
          refine ⟨_, rfl, ?_⟩
          have H := H.same H'; clear H'
          refine s_run rfl (g_on 76 (by kernel_rfl) rfl) (r_mv (v := .pointer _) rfl) ?_
          refine s_run rfl (g_on 76 (by kernel_rfl) rfl) (r_mv (v := .int _ _) rfl) ?_
          refine s_call (g_on 76 (by kernel_rfl) rfl) (nLasting g d i _ (H.grp_ents 4 rfl)) (ca26 rfl) ?_
          rintro e W1 ⟨rfl, H'⟩
          refine ⟨_, rfl, ?_⟩
          have H := H.same H'; clear H'
          refine s_run rfl (g_on 76 (by kernel_rfl) rfl) (r_neqF rfl rfl (by omega)) ?_
          refine s_run rfl rfl (r_pkF (v := .bool _) rfl rfl) ?_
          refine k_nil ?_
          refine c_norm ?_
          refine k_f rfl ?_
          refine k_skip ?_
          refine b_norm ?_
          refine c_norm ?_
          refine k_rg ?_
          refine s_run rfl rfl (r_mv (v := .int _ _) rfl) ?_
          refine s_run rfl rfl (r_add rfl rfl (wI (by omega))) ?_
          refine s_run rfl rfl (r_as (v := .int _ _) rfl) ?_
          refine k_nil ?_
          refine c_round ?_
          refine ⟨_, _, ?_, rfl, i + 1, by omega, rfl, rfl, rfl, rfl, rfl, rfl, rfl, rfl, H⟩
          omega
        · obtain rfl : i = 8 * k := by omega
          have hPe := fun W hE => nPersist g d k u.a u.n W hE hok hg (by omega)
          by_cases hz0 : (Nv.persist d k u.a u.n).2 = 0
          · have hI2 := hI.persist u.a u.n
            have hcl := Nv.persist_clean hI hz0
            obtain ⟨ra, rn, rs⟩ := persist_range hz0
            rw [hz0] at hPe
            generalize (Nv.persist d k u.a u.n).1 = d2 at *
            have hC3 := fun W hE hz => nCrash g d2 k u.A u.nc u.cc u.cs W hE hI2.ok hg (by omega) hz hu.len hu.bd (by omega)
            have hl3 := Nv.crashTo_len hI2.ok u.cs (Nv.dirtyTo d2.dirty k).length
            have hk3 := fun x hx => Nv.crashTo_clean hI2.ok u.cs x hx (Nv.dirtyTo d2.dirty k).length
            generalize Nv.crashTo d2 (Nv.dirtyTo d2.dirty k) u.cs (Nv.dirtyTo d2.dirty k).length = L3 at *
            refine k_seq ?_
            refine k_seq ?_
            refine k_rg ?_
            refine s_run rfl rfl (r_mv (v := .int _ _) rfl) ?_
            refine s_run rfl rfl (r_mv (v := .pointer _) rfl) ?_
            refine s_call rfl (hLe _ (H.grp_ents 4 rfl)) (ca24 rfl) ?_
            rintro e W1 ⟨rfl, H'⟩
            refine ⟨_, rfl, ?_⟩
            have H := H.same H'; clear H'
            refine s_run rfl rfl (r_lssF rfl rfl (by omega)) ?_
            refine k_nil ?_
            refine c_norm ?_
            refine k_f rfl ?_
            refine k_exit ?_
            refine c_exit ?_
            refine c_exit ?_
            refine b_hit ?_
            refine c_norm ?_
            refine k_seq ?_
            refine k_seq ?_
            refine k_rg ?_
            refine s_run rfl rfl (r_mv (v := .pointer _) rfl) ?_
            refine s_run rfl rfl (r_mv (v := .int _ _) rfl) ?_
            refine s_run rfl rfl (r_mv (v := .int _ _) rfl) ?_
            refine s_call rfl (hPe _ (H.grp_ents 4 rfl)) (ca38 rfl) ?_
            rintro e W1 ⟨rfl, H'⟩
            refine ⟨_, rfl, ?_⟩
            have H1 := H.grp_at 4 rfl H'; clear H H'; have H := H1; clear H1; simp only [List.set_cons_succ, List.set_cons_zero] at H
            refine s_run rfl rfl (r_neqF rfl rfl (by omega)) ?_
            refine k_nil ?_
            refine c_norm ?_
            refine k_f rfl ?_
            refine k_skip ?_
            refine c_norm ?_
            refine k_seq ?_
            refine k_rg ?_
            refine s_run rfl rfl (r_mv (v := .pointer _) rfl) ?_
            refine s_run rfl rfl (r_mv (v := .slice _ _ _) rfl) ?_
            refine s_call rfl (hC3 _ (H.grp_ents 4 rfl) (hu.see.later H.only (by simp))) (ca37 rfl) ?_
            rintro e W1 ⟨g3, rfl, hg3, H'⟩
            refine ⟨_, rfl, ?_⟩
            have H := H.more (A := [grp _]) (grp_heap H'); clear H'; simp only [List.cons_append, List.nil_append] at H
            refine s_run rfl rfl (r_as (v := .pointer _) rfl) ?_
            refine k_nil ?_
            refine c_norm ?_
            refine k_seq ?_
            refine k_seq ?_
            refine k_rg ?_
            refine s_run rfl rfl (r_mv (v := .int _ _) rfl) ?_
            refine s_run rfl rfl (r_as (v := .int _ _) rfl) ?_
            refine k_nil ?_
            refine c_norm ?_
            refine k_b ?_
            refine k_loop (fun z f W => ∃ j : Nat, (j : Int) ≤ u.n ∧ z = u.n.toNat - j ∧ f 7 = .int .i64 u.a ∧ f 8 = .int .i64 u.n ∧ f 10 = ptr g.p ∧ f 18 = ptr g3.p ∧ f 19 = .int .i64 (u.a + j) ∧ Heap w [] [grp (devL g3 (Nv.load L3 k)), grp (devL g2 (Nv.load d.last k)), grp (devL g1 (Nv.load L1 k)), vec (Value.int .u8) bk (List.replicate k 2) 5, blk p11 (refCells s d k) 55, grp (devL g d2), blk p5 u.cells 51] W) u.n.toNat ⟨0, by omega, rfl, rfl, rfl, rfl, rfl, by simp only [Int.ofNat_zero, Int.add_zero]; rfl, H⟩ ?_
            clear H
            rintro z f W ⟨j, hj, rfl, f7, f8, f10, f18, f19, H⟩
            obtain ⟨f, rfl⟩ := live5 f7 f8 f10 f18 f19
            clear f7 f8 f10 f18 f19
            by_cases hlt3 : (j : Int) < u.n
            · obtain ⟨hx8, hxc⟩ := hcl (u.a + j).toNat (by omega) (by omega)
              have e1 : Nv.get L3 (u.a + j) = Nv.get d2.cache (u.a + j) := by
                rw [get_of hl3 (by omega) (by omega), get_of hI2.ok.hc (by omega) (by omega), hk3 _ hxc]
                exact hI2.cl _ hx8 hxc
              have hG3 := nGet g3 (Nv.load L3 k) (u.a + j)
              have hL3 := nLasting g3 (Nv.load L3 k) (u.a + j)
              have e2 : Nv.get (Nv.load L3 k).cache (u.a + j) = Nv.get d2.cache (u.a + j) := e1
              have e3 : Nv.get (Nv.load L3 k).last (u.a + j) = Nv.get d2.cache (u.a + j) := e1
              rw [e2] at hG3
              rw [e3] at hL3
              refine k_seq ?_
              refine k_seq ?_
              refine k_rg ?_
              refine s_run rfl rfl (r_mv (v := .int _ _) rfl) ?_
              refine s_run rfl rfl (r_mv (v := .int _ _) rfl) ?_
              refine s_run rfl rfl (r_mv (v := .int _ _) rfl) ?_
              refine s_run rfl rfl (r_add rfl rfl (wI (by omega))) ?_
              refine s_run rfl rfl (r_lssT rfl rfl (by omega)) ?_
              refine k_nil ?_
              refine c_norm ?_
              refine k_t rfl ?_
              refine k_skip ?_
              refine c_norm ?_
              refine k_seq ?_
              refine k_b ?_
              refine k_seq ?_
              refine k_rg ?_
              refine s_run rfl rfl (r_mv (v := .pointer _) rfl) ?_
              refine s_run rfl rfl (r_mv (v := .int _ _) rfl) ?_
              refine s_call rfl (hG3 _ (H.grp_ents 0 rfl)) (ca25 rfl) ?_
              rintro e W1 ⟨rfl, H'⟩
              refine ⟨_, rfl, ?_⟩
              have H := H.same H'; clear H'
              refine s_run rfl rfl (r_mv (v := .pointer _) rfl) ?_
              refine s_run rfl rfl (r_mv (v := .int _ _) rfl) ?_
              refine s_call rfl (nGet g d2 (u.a + j) _ (H.grp_ents 5 rfl)) (ca25 rfl) ?_
              rintro e W1 ⟨rfl, H'⟩
              refine ⟨_, rfl, ?_⟩
              have H := H.same H'; clear H'
              refine s_run rfl rfl (r_neqF rfl rfl (by omega)) ?_
              refine s_run rfl rfl (r_mv (v := .bool _) rfl) ?_
              refine s_run rfl (g_on 108 (by kernel_rfl) rfl) (r_mv (v := .pointer _) rfl) ?_
              refine s_run rfl (g_on 108 (by kernel_rfl) rfl) (r_mv (v := .int _ _) rfl) ?_
              refine s_call (g_on 108 (by kernel_rfl) rfl) (hL3 _ (H.grp_ents 0 rfl)) (ca26 rfl) ?_
              rintro e W1 ⟨rfl, H'⟩
              refine ⟨_, rfl, ?_⟩
              have H := H.same H'; clear H'
              refine s_run rfl (g_on 108 (by kernel_rfl) rfl) (r_mv (v := .pointer _) rfl) ?_
              refine s_run rfl (g_on 108 (by kernel_rfl) rfl) (r_mv (v := .int _ _) rfl) ?_
              refine s_call (g_on 108 (by kernel_rfl) rfl) (nGet g d2 (u.a + j) _ (H.grp_ents 5 rfl)) (ca25 rfl) ?_
              rintro e W1 ⟨rfl, H'⟩
              refine ⟨_, rfl, ?_⟩
              have H := H.same H'; clear H'
              refine s_run rfl (g_on 108 (by kernel_rfl) rfl) (r_neqF rfl rfl (by omega)) ?_
              refine s_run rfl rfl (r_pkF (v := .bool _) rfl rfl) ?_
              refine k_nil ?_
              refine c_norm ?_
              refine k_f rfl ?_
              refine k_skip ?_
              refine b_norm ?_
              refine c_norm ?_
              refine k_rg ?_
              refine s_run rfl rfl (r_mv (v := .int _ _) rfl) ?_
              refine s_run rfl rfl (r_add rfl rfl (wI (by omega))) ?_
              refine s_run rfl rfl (r_as (v := .int _ _) rfl) ?_
              refine k_nil ?_
              refine c_round ?_
              refine ⟨_, _, ?_, rfl, j + 1, by omega, rfl, rfl, rfl, rfl, rfl, ?_, H⟩
              · omega
              · exact congrArg (Value.int .i64) (by omega)
            · refine k_seq ?_
              refine k_seq ?_
              refine k_rg ?_
              refine s_run rfl rfl (r_mv (v := .int _ _) rfl) ?_
              refine s_run rfl rfl (r_mv (v := .int _ _) rfl) ?_
              refine s_run rfl rfl (r_mv (v := .int _ _) rfl) ?_
              refine s_run rfl rfl (r_add rfl rfl (wI (by omega))) ?_
              refine s_run rfl rfl (r_lssF rfl rfl (by omega)) ?_
              refine k_nil ?_
              refine c_norm ?_
              refine k_f rfl ?_
              refine k_exit ?_
              refine c_exit ?_
              refine c_exit ?_
              refine b_hit ?_
              refine c_norm ?_
              refine k_seq ?_
              refine k_rg ?_
              refine s_run rfl rfl (r_as (v := .bool _) rfl) ?_
              refine k_nil ?_
              refine c_norm ?_
              refine k_ret ?_
              refine fin1r (v := .bool _) rfl rfl ?_
              exact ⟨rfl, H.only.below⟩
          · refine k_seq ?_
            refine k_seq ?_
            refine k_rg ?_
            refine s_run rfl rfl (r_mv (v := .int _ _) rfl) ?_
            refine s_run rfl rfl (r_mv (v := .pointer _) rfl) ?_
            refine s_call rfl (hLe _ (H.grp_ents 4 rfl)) (ca24 rfl) ?_
            rintro e W1 ⟨rfl, H'⟩
            refine ⟨_, rfl, ?_⟩
            have H := H.same H'; clear H'
            refine s_run rfl rfl (r_lssF rfl rfl (by omega)) ?_
            refine k_nil ?_
            refine c_norm ?_
            refine k_f rfl ?_
            refine k_exit ?_
            refine c_exit ?_
            refine c_exit ?_
            refine b_hit ?_
            refine c_norm ?_
            refine k_seq ?_
            refine k_seq ?_
            refine k_rg ?_
            refine s_run rfl rfl (r_mv (v := .pointer _) rfl) ?_
            refine s_run rfl rfl (r_mv (v := .int _ _) rfl) ?_
            refine s_run rfl rfl (r_mv (v := .int _ _) rfl) ?_
            refine s_call rfl (hPe _ (H.grp_ents 4 rfl)) (ca38 rfl) ?_
            rintro e W1 ⟨rfl, H'⟩
            refine ⟨_, rfl, ?_⟩
            have H1 := H.grp_at 4 rfl H'; clear H H'; have H := H1; clear H1; simp only [List.set_cons_succ, List.set_cons_zero] at H
            refine s_run rfl rfl (r_neqT rfl rfl (by omega)) ?_
            refine k_nil ?_
            refine c_norm ?_
            refine k_t rfl ?_
            refine k_seq ?_
            refine k_rg ?_
            refine s_run rfl rfl (r_as (v := .bool _) rfl) ?_
            refine k_nil ?_
            refine c_norm ?_
            refine k_ret ?_
            refine c_ret ?_
            refine fin1r (v := .bool _) rfl rfl ?_
            exact ⟨rfl, H.only.below⟩
  · have hf3 : fewB n q ops = false := by simpa using hf
    rw [hf3] at hF
    refine k_in (N := 117) Try.func7 rfl rfl rfl ?_
    refine k_seq ?_
    refine k_rg ?_
    refine s_box H rfl rfl ?_
    intro p5 _ H'; clear H; have H := H'; clear H'
    refine s_run rfl rfl (r_as (v := .bool _) rfl) ?_
    refine k_nil ?_
    refine c_norm ?_
    refine k_seq ?_
    refine k_seq ?_
    refine k_rg ?_
    refine s_call rfl (lAwake _) (ca20 rfl) ?_
    rintro e W1 ⟨rfl, H'⟩
    refine ⟨_, rfl, ?_⟩
    have H := H.same H'; clear H'
    refine s_run rfl rfl (r_notT rfl) ?_
    refine k_nil ?_
    refine c_norm ?_
    refine k_f rfl ?_
    refine k_skip ?_
    refine c_norm ?_
    refine k_seq ?_
    refine k_q mixed (by kernel_rfl) H ?_
    refine q_run rfl rfl (fun _ H => r_fa0 rfl fo51_1) ?_
    refine q_run rfl rfl (fun _ H => r_lo H 0 rfl rfl rfl ag3) ?_
    refine q_run rfl rfl (fun _ H => r_fa0 rfl fo51_2) ?_
    refine q_run rfl rfl (fun _ H => r_lo H 0 rfl rfl rfl ag3) ?_
    refine q_run rfl rfl (fun _ H => r_fa0 rfl fo51_4) ?_
    refine q_run rfl rfl (fun _ H => r_lo H 0 rfl rfl rfl ag49) ?_
    refine q_run rfl rfl (fun _ H => r_as (v := .int _ _) rfl) ?_
    refine q_run rfl rfl (fun _ H => r_as (v := .int _ _) rfl) ?_
    refine q_run rfl rfl (fun _ H => r_as (v := .slice _ _ _) rfl) ?_
    refine q_nil ?_
    intro _ H'; clear H; have H := H'; clear H'
    refine c_norm ?_
    refine k_seq ?_
    refine k_seq ?_
    refine k_rg ?_
    refine s_run rfl rfl (r_mv (v := .slice _ _ _) rfl) ?_
    refine s_run rfl rfl (r_mv (v := .slice _ _ _) rfl) ?_
    refine s_call rfl (hF _ (hs.later H.only)) (ca31 rfl) ?_
    rintro e W1 ⟨rfl, H'⟩
    refine ⟨_, rfl, ?_⟩
    have H := H.same H'; clear H'
    refine s_run rfl rfl (r_notF rfl) ?_
    refine s_run rfl rfl (r_mv (v := .bool _) rfl) ?_
    refine s_off rfl (g_off 32 (by kernel_rfl) rfl rfl) ?_
    refine s_off rfl (g_off 32 (by kernel_rfl) rfl rfl) ?_
    refine s_off rfl (g_off 32 (by kernel_rfl) rfl rfl) ?_
    refine s_run rfl rfl (r_pkT (v := .bool _) rfl rfl) ?_
    refine k_nil ?_
    refine c_norm ?_
    refine k_t rfl ?_
    refine k_seq ?_
    refine k_rg ?_
    refine s_run rfl rfl (r_as (v := .bool _) rfl) ?_
    refine k_nil ?_
    refine c_norm ?_
    refine k_ret ?_
    refine c_ret ?_
    refine fin1r (v := .bool _) rfl rfl ?_
    exact ⟨rfl, H.only.below⟩
end Go.Proofs.Ytmekhdclnhhhbaa
