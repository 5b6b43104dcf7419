/-
  ImageSaves: for every input the Go function answers true, and its arguments read afterwards as they read before. No condition.
-/
import Derived.Test.YtmekhdclnhhhbaaKImageSavesd
section
namespace Go.Proofs.Ytmekhdclnhhhbaa.Nv
open Im
theorem U_set {l : List Int} (h : U l) (i : Nat) {v : Int} (hv : 0 ≤ v ∧ v ≤ 18446744073709551615) : U (l.set i v) := fun x hx => by
  rcases List.mem_or_eq_of_mem_set hx with h1 | h1
  · exact h x h1
  · rw [h1]; exact hv
theorem U_part {l : List Int} (h : U l) (i : Nat) : U (part l i) := (h.drop _).take _
theorem U_setPart {l p : List Int} (h : U l) (hp : U p) (i : Nat) : U (setPart l i p) := fun x hx => by
  unfold setPart at hx
  rcases List.mem_append.1 hx with hx | hx
  · rcases List.mem_append.1 hx with hx | hx
    · exact h.take _ x hx
    · exact hp x hx
  · exact h.drop _ x hx
structure Ud (d : D) : Prop where
  l : U d.last
  c : U d.cache
  f : U d.fl
theorem Ud.load {ws : List Int} (h : U ws) (m : Nat) : Ud (load ws m) := ⟨h, h, fun x hx => by rw [(List.mem_replicate.1 hx).2]; decide⟩
theorem Ud.killed {d : D} (h : Ud d) : Ud (killed d) := ⟨h.l, h.c, h.f⟩
theorem Ud.stepped {d : D} (h : Ud d) : Ud (stepped d) := ⟨h.l, h.c, h.f⟩
theorem Ud.flushed {d : D} (h : Ud d) (i : Nat) : Ud (flushed d i) := ⟨h.l, h.c, U_setPart h.f (U_part h.c i) i⟩
theorem Ud.evicted {d : D} (h : Ud d) (i : Nat) : Ud (evicted d i) := ⟨U_setPart h.l (U_part h.c i) i, h.c, h.f⟩
theorem Ud.fenceLine {d : D} (h : Ud d) (i : Nat) : Ud (fenceLine d i) := by
  unfold Nv.fenceLine
  split
  · exact ⟨U_setPart h.l (U_part h.f i) i, h.c, h.f⟩
  · exact h
theorem Ud.fenceTo {d : D} (h : Ud d) : ∀ k, Ud (fenceTo d k)
  | 0 => h
  | k + 1 => (Ud.fenceTo h k).fenceLine k
theorem Ud.store {d : D} (h : Ud d) (m : Nat) (a : Int) {v : Int} (hv : 0 ≤ v ∧ v ≤ 18446744073709551615) : Ud (store d m a v).1 := by
  unfold Nv.store
  split
  · split
    · exact h.killed
    · exact ⟨h.l, U_set h.c _ hv, h.f⟩
  · exact h
theorem Ud.flush {d : D} (h : Ud d) (m : Nat) (l : Int) : Ud (flush d m l).1 := by
  unfold Nv.flush
  split
  · split
    · exact h.killed
    · show Ud (if _ then _ else _)
      split
      · exact h.stepped.flushed _
      · exact h.stepped
  · exact h
theorem Ud.fence {d : D} (h : Ud d) (m : Nat) : Ud (fence d m).1 := by
  unfold Nv.fence
  split
  · exact h.killed
  · exact h.stepped.fenceTo _
theorem Ud.evict {d : D} (h : Ud d) (m : Nat) (l : Int) : Ud (evict d m l).1 := by
  unfold Nv.evict
  split
  · split
    · exact h
    · exact h.evicted _
  · exact h
end Go.Proofs.Ytmekhdclnhhhbaa.Nv
end

section
namespace Go.Proofs.Ytmekhdclnhhhbaa
open Go.RowKit
set_option linter.unusedSimpArgs false
set_option linter.unusedVariables false
theorem row_u64 {A : Option Addr} {n c : Nat} {zs : List Int} {w : World} (h : IsRow .u64 w A n c zs) : Im.U (zs.take n) := by
  obtain ⟨_, _, _, _, hw⟩ := row_words h
  exact fun z hz => bounds_u64 (hw z hz)
theorem nDirty0 (g : Geo) (ws : List Int) (m : Nat) (w : World) (hE : Ents (devL g (Nv.load ws m)) w) (hl : ws.length = 8 * m) (hm : m ≤ 100000) :
    Calls Try.prog 27 [ptr g.p].toArray w fun e w' => ∃ A c, e = .returned (.slice A 0 c) ∧ Only [] w w' :=
  (nDirty g (Nv.load ws m) m w hE (Nv.Inv.load ws m hl).ok hm).mono (by
    rintro e w' ⟨A, c, he, H⟩
    have e0 : Nv.dirtyTo (Nv.load ws m).dirty m = [] := dirtyTo_rep m m
    rw [e0] at he
    exact ⟨A, c, he, H.only⟩)
theorem walk_ImageSaves (A : Option Addr) (n c : Nat) (zs : List Int) (x : Option Addr × Nat × Nat × List OpS) (w : World) (hr : IsRow .u64 w A n c zs) (hx : Script w x.1 x.2.2.2 ∧ x.2.2.2.length = x.2.1 ∧ x.2.1 ≤ 9223372036854775807) :
    Calls Try.prog 11 [.slice A n c, .slice x.1 x.2.1 x.2.2.1].toArray w fun e w' => e = .returned (.bool true) ∧ Below w.heap.size w w' := by
  obtain ⟨B, q, cq, ops⟩ := x
  obtain ⟨hs, hl, hq⟩ := hx
  dsimp only at hs hl hq ⊢
  obtain ⟨hz, lz, hnc, hcm, _⟩ := row_words hr
  have hUz := row_u64 hr
  unfold maxLen at hcm
  generalize zs.take n = xs at *
  have H := Heap.nil w
  by_cases h1 : 300 < n
  · refine k_in (N := 101) Try.func11 rfl rfl rfl ?_
    refine k_seq ?_
    refine k_rg ?_
    refine s_run rfl rfl (r_as (v := .bool _) rfl) ?_
    refine k_nil ?_
    refine c_norm ?_
    refine k_seq ?_
    refine k_seq ?_
    refine k_rg ?_
    refine s_call rfl (iAwake _) (ca40 rfl) ?_
    rintro e W1 ⟨rfl, H'⟩
    refine ⟨_, rfl, ?_⟩
    have H := H.same H'; clear H'
    refine s_run rfl rfl (r_notT rfl) ?_
    refine k_nil ?_
    refine c_norm ?_
    refine k_f rfl ?_
    refine k_skip ?_
    refine c_norm ?_
    refine k_seq ?_
    refine k_seq ?_
    refine k_rg ?_
    refine s_run rfl rfl (r_mv (v := .slice _ _ _) rfl) ?_
    refine s_run rfl rfl (r_len rfl Try.underlying25) ?_
    refine s_run rfl rfl (r_gtrT rfl rfl (by omega)) ?_
    refine s_run rfl rfl (r_mv (v := .bool _) rfl) ?_
    refine s_off rfl (g_off 16 (by kernel_rfl) rfl rfl) ?_
    refine s_off rfl (g_off 16 (by kernel_rfl) rfl rfl) ?_
    refine s_off rfl (g_off 16 (by kernel_rfl) rfl rfl) ?_
    refine s_run rfl rfl (r_pkT (v := .bool _) rfl rfl) ?_
    refine k_nil ?_
    refine c_norm ?_
    refine k_t rfl ?_
    refine k_seq ?_
    refine k_rg ?_
    refine s_run rfl rfl (r_as (v := .bool _) rfl) ?_
    refine k_nil ?_
    refine c_norm ?_
    refine k_ret ?_
    refine c_ret ?_
    refine fin1r (v := .bool _) rfl rfl ?_
    exact ⟨rfl, H.only.below⟩
  by_cases h2 : 20 < q
  · refine k_in (N := 101) Try.func11 rfl rfl rfl ?_
    refine k_seq ?_
    refine k_rg ?_
    refine s_run rfl rfl (r_as (v := .bool _) rfl) ?_
    refine k_nil ?_
    refine c_norm ?_
    refine k_seq ?_
    refine k_seq ?_
    refine k_rg ?_
    refine s_call rfl (iAwake _) (ca40 rfl) ?_
    rintro e W1 ⟨rfl, H'⟩
    refine ⟨_, rfl, ?_⟩
    have H := H.same H'; clear H'
    refine s_run rfl rfl (r_notT rfl) ?_
    refine k_nil ?_
    refine c_norm ?_
    refine k_f rfl ?_
    refine k_skip ?_
    refine c_norm ?_
    refine k_seq ?_
    refine k_seq ?_
    refine k_rg ?_
    refine s_run rfl rfl (r_mv (v := .slice _ _ _) rfl) ?_
    refine s_run rfl rfl (r_len rfl Try.underlying25) ?_
    refine s_run rfl rfl (r_gtrF rfl rfl (by omega)) ?_
    refine s_run rfl rfl (r_mv (v := .bool _) rfl) ?_
    refine s_run rfl (g_on 16 (by kernel_rfl) rfl) (r_mv (v := .slice _ _ _) rfl) ?_
    refine s_run rfl (g_on 16 (by kernel_rfl) rfl) (r_len rfl Try.underlying46) ?_
    refine s_run rfl (g_on 16 (by kernel_rfl) rfl) (r_gtrT rfl rfl (by omega)) ?_
    refine s_run rfl rfl (r_pkF (v := .bool _) rfl rfl) ?_
    refine k_nil ?_
    refine c_norm ?_
    refine k_t rfl ?_
    refine k_seq ?_
    refine k_rg ?_
    refine s_run rfl rfl (r_as (v := .bool _) rfl) ?_
    refine k_nil ?_
    refine c_norm ?_
    refine k_ret ?_
    refine c_ret ?_
    refine fin1r (v := .bool _) rfl rfl ?_
    exact ⟨rfl, H.only.below⟩
  have hL := fun W hz => nLoad A n c xs W hz lz (by omega)
  have hI : Nv.Inv (Nv.load (xs ++ List.replicate (8 * ((n + 7) / 8) - n) 0) ((n + 7) / 8)) ((n + 7) / 8) := Nv.Inv.load _ _ (by rw [List.length_append, lz, List.length_replicate]; omega)
  have hD : Nv.Ud (Nv.load (xs ++ List.replicate (8 * ((n + 7) / 8) - n) 0) ((n + 7) / 8)) := Nv.Ud.load (fun y hy => by
    rcases List.mem_append.1 hy with h | h
    · exact hUz y h
    · rw [(List.mem_replicate.1 h).2]; decide) _
  have hm : (n + 7) / 8 ≤ 60 := by omega
  generalize Nv.load (xs ++ List.replicate (8 * ((n + 7) / 8) - n) 0) ((n + 7) / 8) = d0 at *
  generalize (n + 7) / 8 = m at *
  refine k_in (N := 101) Try.func11 rfl rfl rfl ?_
  refine k_seq ?_
  refine k_rg ?_
  refine s_run rfl rfl (r_as (v := .bool _) rfl) ?_
  refine k_nil ?_
  refine c_norm ?_
  refine k_seq ?_
  refine k_seq ?_
  refine k_rg ?_
  refine s_call rfl (iAwake _) (ca40 rfl) ?_
  rintro e W1 ⟨rfl, H'⟩
  refine ⟨_, rfl, ?_⟩
  have H := H.same H'; clear H'
  refine s_run rfl rfl (r_notT rfl) ?_
  refine k_nil ?_
  refine c_norm ?_
  refine k_f rfl ?_
  refine k_skip ?_
  refine c_norm ?_
  refine k_seq ?_
  refine k_seq ?_
  refine k_rg ?_
  refine s_run rfl rfl (r_mv (v := .slice _ _ _) rfl) ?_
  refine s_run rfl rfl (r_len rfl Try.underlying25) ?_
  refine s_run rfl rfl (r_gtrF rfl rfl (by omega)) ?_
  refine s_run rfl rfl (r_mv (v := .bool _) rfl) ?_
  refine s_run rfl (g_on 16 (by kernel_rfl) rfl) (r_mv (v := .slice _ _ _) rfl) ?_
  refine s_run rfl (g_on 16 (by kernel_rfl) rfl) (r_len rfl Try.underlying46) ?_
  refine s_run rfl (g_on 16 (by kernel_rfl) rfl) (r_gtrF rfl rfl (by omega)) ?_
  refine s_run rfl rfl (r_pkF (v := .bool _) rfl rfl) ?_
  refine k_nil ?_
  refine c_norm ?_
  refine k_f rfl ?_
  refine k_skip ?_
  refine c_norm ?_
  refine k_seq ?_
  refine k_rg ?_
  refine s_run rfl rfl (r_mv (v := .slice _ _ _) rfl) ?_
  refine s_call rfl (hL _ (hz.later H.only (by simp))) (ca16 rfl) ?_
  rintro e W1 ⟨g, rfl, hg, H'⟩
  refine ⟨_, rfl, ?_⟩
  have H := H.more (A := [grp _]) (grp_heap H'); clear H'; simp only [List.cons_append, List.nil_append] at H
  refine s_run rfl rfl (r_as (v := .pointer _) rfl) ?_
  refine k_nil ?_
  refine c_norm ?_
  refine k_seq ?_
  refine k_seq ?_
  refine k_rg ?_
  refine s_run rfl rfl (r_mv (v := .pointer _) rfl) ?_
  refine s_run rfl rfl (r_ptnilF rfl rfl Try.underlying26) ?_
  refine k_nil ?_
  refine c_norm ?_
  refine k_f rfl ?_
  refine k_skip ?_
  refine c_norm ?_
  refine k_seq ?_
  refine k_seq ?_
  refine k_rg ?_
  refine s_run rfl rfl (r_as (v := .int _ _) rfl) ?_
  refine k_nil ?_
  refine c_norm ?_
  refine k_b ?_
  refine k_loop (fun z f W => ∃ (k : Nat) (d : Nv.D), k ≤ q ∧ z = q - k ∧ Nv.Inv d m ∧ Nv.Ud d ∧ f 1 = .slice B q cq ∧ f 5 = ptr g.p ∧ f 6 = .int .i64 k ∧ Heap w [] [grp (devL g d)] W) q ⟨0, d0, by omega, rfl, hI, hD, rfl, rfl, rfl, H⟩ ?_
  clear H hI hD
  rintro z f W ⟨k, d, hk, rfl, hI, hD, f1, f5, f6, H⟩
  obtain ⟨f, rfl⟩ := live3 f1 f5 f6
  clear f1 f5 f6
  by_cases hlt : k < q
  · obtain ⟨b, o, rfl, hrd⟩ := hs.1 (by omega)
    obtain ⟨op, hop⟩ : ∃ op, ops[k]? = some op := ⟨_, List.getElem?_eq_getElem (by omega)⟩
    have hcell := hrd k op hop
    have hok := hs.2 op (List.mem_of_getElem? hop)
    by_cases k0 : op.k = 0
    · refine k_seq ?_
      refine k_seq ?_
      refine k_rg ?_
      refine s_run rfl rfl (r_mv (v := .int _ _) rfl) ?_
      refine s_run rfl rfl (r_mv (v := .slice _ _ _) rfl) ?_
      refine s_run rfl rfl (r_len rfl Try.underlying46) ?_
      refine s_run rfl rfl (r_lssT rfl rfl (by omega)) ?_
      refine k_nil ?_
      refine c_norm ?_
      refine k_t rfl ?_
      refine k_skip ?_
      refine c_norm ?_
      refine k_seq ?_
      refine k_b ?_
      refine k_seq ?_
      refine k_rg ?_
      refine s_run rfl rfl (r_mv (v := .slice _ _ _) rfl) ?_
      refine s_run rfl rfl (r_mv (v := .int _ _) rfl) ?_
      refine s_run rfl rfl (r_ix rfl rfl rfl (by omega) Try.underlying46 sz51) ?_
      refine s_run rfl rfl (r_lA (enc := fun v : Value => v) (zs := op.cells) (hcell.later H.only (by simp)) rfl rfl ag51 sz51) ?_
      refine s_al H rfl inf51 ?_
      intro p7 _ H'; clear H; have H := H'; clear H'
      refine s_sw H 0 rfl rfl rfl rfl rfl rfl rfl sz51 ?_
      intro _ H'; simp only [List.set_cons_zero, List.set_cons_succ, List.take_succ_cons, List.take_zero, List.drop_succ_cons, List.drop_zero, List.cons_append, List.nil_append, List.append_nil, List.length_cons, List.length_nil, Nat.reduceAdd] at H'; clear H; have H := H'; clear H'
      refine k_nil ?_
      refine c_norm ?_
      refine k_seq ?_
      refine k_rg ?_
      refine s_run rfl rfl (r_fa0 rfl fo51_0) ?_
      refine s_run rfl rfl (r_lo H 0 rfl rfl rfl ag3) ?_
      refine k_nil ?_
      refine c_norm ?_
      refine k_b ?_
      refine k_seq ?_
      refine k_rg ?_
      refine s_run rfl rfl (r_eqlT rfl rfl (by omega)) ?_
      refine s_run rfl rfl (r_as (v := .bool _) rfl) ?_
      refine k_nil ?_
      refine c_norm ?_
      refine k_t rfl ?_
      refine k_rg ?_
      refine s_run rfl rfl (r_mv (v := .pointer _) rfl) ?_
      refine s_run rfl rfl (r_fa0 rfl fo51_1) ?_
      refine s_run rfl rfl (r_lo H 0 rfl rfl rfl ag3) ?_
      refine s_run rfl rfl (r_fa0 rfl fo51_3) ?_
      refine s_run rfl rfl (r_lo H 0 rfl rfl rfl ag22) ?_
      refine s_call rfl (nStore g d m op.a op.v _ (H.grp_ents 1 rfl) hI.ok (by omega)) (ca30 rfl) ?_
      rintro e W1 ⟨rfl, H'⟩
      refine ⟨_, rfl, ?_⟩
      have H1 := H.grp_at 1 rfl H'; clear H H'; have H := H1; clear H1; simp only [List.set_cons_succ, List.set_cons_zero] at H
      refine k_nil ?_
      refine b_norm ?_
      refine b_norm ?_
      refine c_norm ?_
      refine k_rg ?_
      refine s_run rfl rfl (r_mv (v := .int _ _) rfl) ?_
      refine s_run rfl rfl (r_add rfl rfl (wI (by omega))) ?_
      refine s_run rfl rfl (r_as (v := .int _ _) rfl) ?_
      refine k_nil ?_
      refine c_round ?_
      refine ⟨_, _, ?_, rfl, k + 1, _, by omega, rfl, hI.store op.a op.v, hD.store m op.a hok.vb, rfl, rfl, rfl, H.drop⟩
      omega
    by_cases k1 : op.k = 1
    · refine k_seq ?_
      refine k_seq ?_
      refine k_rg ?_
      refine s_run rfl rfl (r_mv (v := .int _ _) rfl) ?_
      refine s_run rfl rfl (r_mv (v := .slice _ _ _) rfl) ?_
      refine s_run rfl rfl (r_len rfl Try.underlying46) ?_
      refine s_run rfl rfl (r_lssT rfl rfl (by omega)) ?_
      refine k_nil ?_
      refine c_norm ?_
      refine k_t rfl ?_
      refine k_skip ?_
      refine c_norm ?_
      refine k_seq ?_
      refine k_b ?_
      refine k_seq ?_
      refine k_rg ?_
      refine s_run rfl rfl (r_mv (v := .slice _ _ _) rfl) ?_
      refine s_run rfl rfl (r_mv (v := .int _ _) rfl) ?_
      refine s_run rfl rfl (r_ix rfl rfl rfl (by omega) Try.underlying46 sz51) ?_
      refine s_run rfl rfl (r_lA (enc := fun v : Value => v) (zs := op.cells) (hcell.later H.only (by simp)) rfl rfl ag51 sz51) ?_
      refine s_al H rfl inf51 ?_
      intro p7 _ H'; clear H; have H := H'; clear H'
      refine s_sw H 0 rfl rfl rfl rfl rfl rfl rfl sz51 ?_
      intro _ H'; simp only [List.set_cons_zero, List.set_cons_succ, List.take_succ_cons, List.take_zero, List.drop_succ_cons, List.drop_zero, List.cons_append, List.nil_append, List.append_nil, List.length_cons, List.length_nil, Nat.reduceAdd] at H'; clear H; have H := H'; clear H'
      refine k_nil ?_
      refine c_norm ?_
      refine k_seq ?_
      refine k_rg ?_
      refine s_run rfl rfl (r_fa0 rfl fo51_0) ?_
      refine s_run rfl rfl (r_lo H 0 rfl rfl rfl ag3) ?_
      refine k_nil ?_
      refine c_norm ?_
      refine k_b ?_
      refine k_seq ?_
      refine k_rg ?_
      refine s_run rfl rfl (r_eqlF rfl rfl (by omega)) ?_
      refine s_run rfl rfl (r_as (v := .bool _) rfl) ?_
      refine k_nil ?_
      refine c_norm ?_
      refine k_f rfl ?_
      refine k_seq ?_
      refine k_rg ?_
      refine s_run rfl rfl (r_eqlT rfl rfl (by omega)) ?_
      refine s_run rfl rfl (r_as (v := .bool _) rfl) ?_
      refine k_nil ?_
      refine c_norm ?_
      refine k_t rfl ?_
      refine k_rg ?_
      refine s_run rfl rfl (r_mv (v := .pointer _) rfl) ?_
      refine s_run rfl rfl (r_fa0 rfl fo51_1) ?_
      refine s_run rfl rfl (r_lo H 0 rfl rfl rfl ag3) ?_
      refine s_call rfl (nFlush g d m op.a _ (H.grp_ents 1 rfl) hI.ok hg (by omega)) (ca49 rfl) ?_
      rintro e W1 ⟨rfl, H'⟩
      refine ⟨_, rfl, ?_⟩
      have H1 := H.grp_at 1 rfl H'; clear H H'; have H := H1; clear H1; simp only [List.set_cons_succ, List.set_cons_zero] at H
      refine k_nil ?_
      refine b_norm ?_
      refine b_norm ?_
      refine c_norm ?_
      refine k_rg ?_
      refine s_run rfl rfl (r_mv (v := .int _ _) rfl) ?_
      refine s_run rfl rfl (r_add rfl rfl (wI (by omega))) ?_
      refine s_run rfl rfl (r_as (v := .int _ _) rfl) ?_
      refine k_nil ?_
      refine c_round ?_
      refine ⟨_, _, ?_, rfl, k + 1, _, by omega, rfl, hI.flush op.a, hD.flush m op.a, rfl, rfl, rfl, H.drop⟩
      omega
    by_cases k2 : op.k = 2
    · refine k_seq ?_
      refine k_seq ?_
      refine k_rg ?_
      refine s_run rfl rfl (r_mv (v := .int _ _) rfl) ?_
      refine s_run rfl rfl (r_mv (v := .slice _ _ _) rfl) ?_
      refine s_run rfl rfl (r_len rfl Try.underlying46) ?_
      refine s_run rfl rfl (r_lssT rfl rfl (by omega)) ?_
      refine k_nil ?_
      refine c_norm ?_
      refine k_t rfl ?_
      refine k_skip ?_
      refine c_norm ?_
      refine k_seq ?_
      refine k_b ?_
      refine k_seq ?_
      refine k_rg ?_
      refine s_run rfl rfl (r_mv (v := .slice _ _ _) rfl) ?_
      refine s_run rfl rfl (r_mv (v := .int _ _) rfl) ?_
      refine s_run rfl rfl (r_ix rfl rfl rfl (by omega) Try.underlying46 sz51) ?_
      refine s_run rfl rfl (r_lA (enc := fun v : Value => v) (zs := op.cells) (hcell.later H.only (by simp)) rfl rfl ag51 sz51) ?_
      refine s_al H rfl inf51 ?_
      intro p7 _ H'; clear H; have H := H'; clear H'
      refine s_sw H 0 rfl rfl rfl rfl rfl rfl rfl sz51 ?_
      intro _ H'; simp only [List.set_cons_zero, List.set_cons_succ, List.take_succ_cons, List.take_zero, List.drop_succ_cons, List.drop_zero, List.cons_append, List.nil_append, List.append_nil, List.length_cons, List.length_nil, Nat.reduceAdd] at H'; clear H; have H := H'; clear H'
      refine k_nil ?_
      refine c_norm ?_
      refine k_seq ?_
      refine k_rg ?_
      refine s_run rfl rfl (r_fa0 rfl fo51_0) ?_
      refine s_run rfl rfl (r_lo H 0 rfl rfl rfl ag3) ?_
      refine k_nil ?_
      refine c_norm ?_
      refine k_b ?_
      refine k_seq ?_
      refine k_rg ?_
      refine s_run rfl rfl (r_eqlF rfl rfl (by omega)) ?_
      refine s_run rfl rfl (r_as (v := .bool _) rfl) ?_
      refine k_nil ?_
      refine c_norm ?_
      refine k_f rfl ?_
      refine k_seq ?_
      refine k_rg ?_
      refine s_run rfl rfl (r_eqlF rfl rfl (by omega)) ?_
      refine s_run rfl rfl (r_as (v := .bool _) rfl) ?_
      refine k_nil ?_
      refine c_norm ?_
      refine k_f rfl ?_
      refine k_seq ?_
      refine k_rg ?_
      refine s_run rfl rfl (r_eqlT rfl rfl (by omega)) ?_
      refine s_run rfl rfl (r_as (v := .bool _) rfl) ?_
      refine k_nil ?_
      refine c_norm ?_
      refine k_t rfl ?_
      refine k_rg ?_
      refine s_run rfl rfl (r_mv (v := .pointer _) rfl) ?_
      refine s_call rfl (nFence g d m _ (H.grp_ents 1 rfl) hI.ok hg (by omega)) (ca35 rfl) ?_
      rintro e W1 ⟨rfl, H'⟩
      refine ⟨_, rfl, ?_⟩
      have H1 := H.grp_at 1 rfl H'; clear H H'; have H := H1; clear H1; simp only [List.set_cons_succ, List.set_cons_zero] at H
      refine k_nil ?_
      refine b_norm ?_
      refine b_norm ?_
      refine c_norm ?_
      refine k_rg ?_
      refine s_run rfl rfl (r_mv (v := .int _ _) rfl) ?_
      refine s_run rfl rfl (r_add rfl rfl (wI (by omega))) ?_
      refine s_run rfl rfl (r_as (v := .int _ _) rfl) ?_
      refine k_nil ?_
      refine c_round ?_
      refine ⟨_, _, ?_, rfl, k + 1, _, by omega, rfl, hI.fence, hD.fence m, rfl, rfl, rfl, H.drop⟩
      omega
    by_cases k3 : op.k = 3
    · refine k_seq ?_
      refine k_seq ?_
      refine k_rg ?_
      refine s_run rfl rfl (r_mv (v := .int _ _) rfl) ?_
      refine s_run rfl rfl (r_mv (v := .slice _ _ _) rfl) ?_
      refine s_run rfl rfl (r_len rfl Try.underlying46) ?_
      refine s_run rfl rfl (r_lssT rfl rfl (by omega)) ?_
      refine k_nil ?_
      refine c_norm ?_
      refine k_t rfl ?_
      refine k_skip ?_
      refine c_norm ?_
      refine k_seq ?_
      refine k_b ?_
      refine k_seq ?_
      refine k_rg ?_
      refine s_run rfl rfl (r_mv (v := .slice _ _ _) rfl) ?_
      refine s_run rfl rfl (r_mv (v := .int _ _) rfl) ?_
      refine s_run rfl rfl (r_ix rfl rfl rfl (by omega) Try.underlying46 sz51) ?_
      refine s_run rfl rfl (r_lA (enc := fun v : Value => v) (zs := op.cells) (hcell.later H.only (by simp)) rfl rfl ag51 sz51) ?_
      refine s_al H rfl inf51 ?_
      intro p7 _ H'; clear H; have H := H'; clear H'
      refine s_sw H 0 rfl rfl rfl rfl rfl rfl rfl sz51 ?_
      intro _ H'; simp only [List.set_cons_zero, List.set_cons_succ, List.take_succ_cons, List.take_zero, List.drop_succ_cons, List.drop_zero, List.cons_append, List.nil_append, List.append_nil, List.length_cons, List.length_nil, Nat.reduceAdd] at H'; clear H; have H := H'; clear H'
      refine k_nil ?_
      refine c_norm ?_
      refine k_seq ?_
      refine k_rg ?_
      refine s_run rfl rfl (r_fa0 rfl fo51_0) ?_
      refine s_run rfl rfl (r_lo H 0 rfl rfl rfl ag3) ?_
      refine k_nil ?_
      refine c_norm ?_
      refine k_b ?_
      refine k_seq ?_
      refine k_rg ?_
      refine s_run rfl rfl (r_eqlF rfl rfl (by omega)) ?_
      refine s_run rfl rfl (r_as (v := .bool _) rfl) ?_
      refine k_nil ?_
      refine c_norm ?_
      refine k_f rfl ?_
      refine k_seq ?_
      refine k_rg ?_
      refine s_run rfl rfl (r_eqlF rfl rfl (by omega)) ?_
      refine s_run rfl rfl (r_as (v := .bool _) rfl) ?_
      refine k_nil ?_
      refine c_norm ?_
      refine k_f rfl ?_
      refine k_seq ?_
      refine k_rg ?_
      refine s_run rfl rfl (r_eqlF rfl rfl (by omega)) ?_
      refine s_run rfl rfl (r_as (v := .bool _) rfl) ?_
      refine k_nil ?_
      refine c_norm ?_
      refine k_f rfl ?_
      refine k_seq ?_
      refine k_rg ?_
      refine s_run rfl rfl (r_eqlT rfl rfl (by omega)) ?_
      refine s_run rfl rfl (r_as (v := .bool _) rfl) ?_
      refine k_nil ?_
      refine c_norm ?_
      refine k_t rfl ?_
      refine k_rg ?_
      refine s_run rfl rfl (r_mv (v := .pointer _) rfl) ?_
      refine s_run rfl rfl (r_fa0 rfl fo51_1) ?_
      refine s_run rfl rfl (r_lo H 0 rfl rfl rfl ag3) ?_
      refine s_call rfl (nEvict g d m op.a _ (H.grp_ents 1 rfl) hI.ok hg (by omega)) (ca50 rfl) ?_
      rintro e W1 ⟨rfl, H'⟩
      refine ⟨_, rfl, ?_⟩
      have H1 := H.grp_at 1 rfl H'; clear H H'; have H := H1; clear H1; simp only [List.set_cons_succ, List.set_cons_zero] at H
      refine k_nil ?_
      refine b_norm ?_
      refine b_norm ?_
      refine c_norm ?_
      refine k_rg ?_
      refine s_run rfl rfl (r_mv (v := .int _ _) rfl) ?_
      refine s_run rfl rfl (r_add rfl rfl (wI (by omega))) ?_
      refine s_run rfl rfl (r_as (v := .int _ _) rfl) ?_
      refine k_nil ?_
      refine c_round ?_
      refine ⟨_, _, ?_, rfl, k + 1, _, by omega, rfl, hI.evict op.a, hD.evict m op.a, rfl, rfl, rfl, H.drop⟩
      omega
    refine k_seq ?_
    refine k_seq ?_
    refine k_rg ?_
    refine s_run rfl rfl (r_mv (v := .int _ _) rfl) ?_
    refine s_run rfl rfl (r_mv (v := .slice _ _ _) rfl) ?_
    refine s_run rfl rfl (r_len rfl Try.underlying46) ?_
    refine s_run rfl rfl (r_lssT rfl rfl (by omega)) ?_
    refine k_nil ?_
    refine c_norm ?_
    refine k_t rfl ?_
    refine k_skip ?_
    refine c_norm ?_
    refine k_seq ?_
    refine k_b ?_
    refine k_seq ?_
    refine k_rg ?_
    refine s_run rfl rfl (r_mv (v := .slice _ _ _) rfl) ?_
    refine s_run rfl rfl (r_mv (v := .int _ _) rfl) ?_
    refine s_run rfl rfl (r_ix rfl rfl rfl (by omega) Try.underlying46 sz51) ?_
    refine s_run rfl rfl (r_lA (enc := fun v : Value => v) (zs := op.cells) (hcell.later H.only (by simp)) rfl rfl ag51 sz51) ?_
    refine s_al H rfl inf51 ?_
    intro p7 _ H'; clear H; have H := H'; clear H'
    refine s_sw H 0 rfl rfl rfl rfl rfl rfl rfl sz51 ?_
    intro _ H'; simp only [List.set_cons_zero, List.set_cons_succ, List.take_succ_cons, List.take_zero, List.drop_succ_cons, List.drop_zero, List.cons_append, List.nil_append, List.append_nil, List.length_cons, List.length_nil, Nat.reduceAdd] at H'; clear H; have H := H'; clear H'
    refine k_nil ?_
    refine c_norm ?_
    refine k_seq ?_
    refine k_rg ?_
    refine s_run rfl rfl (r_fa0 rfl fo51_0) ?_
    refine s_run rfl rfl (r_lo H 0 rfl rfl rfl ag3) ?_
    refine k_nil ?_
    refine c_norm ?_
    refine k_b ?_
    refine k_seq ?_
    refine k_rg ?_
    refine s_run rfl rfl (r_eqlF rfl rfl (by omega)) ?_
    refine s_run rfl rfl (r_as (v := .bool _) rfl) ?_
    refine k_nil ?_
    refine c_norm ?_
    refine k_f rfl ?_
    refine k_seq ?_
    refine k_rg ?_
    refine s_run rfl rfl (r_eqlF rfl rfl (by omega)) ?_
    refine s_run rfl rfl (r_as (v := .bool _) rfl) ?_
    refine k_nil ?_
    refine c_norm ?_
    refine k_f rfl ?_
    refine k_seq ?_
    refine k_rg ?_
    refine s_run rfl rfl (r_eqlF rfl rfl (by omega)) ?_
    refine s_run rfl rfl (r_as (v := .bool _) rfl) ?_
    refine k_nil ?_
    refine c_norm ?_
    refine k_f rfl ?_
    refine k_seq ?_
    refine k_rg ?_
    refine s_run rfl rfl (r_eqlF rfl rfl (by omega)) ?_
    refine s_run rfl rfl (r_as (v := .bool _) rfl) ?_
    refine k_nil ?_
    refine c_norm ?_
    refine k_f rfl ?_
    refine k_skip ?_
    refine b_norm ?_
    refine b_norm ?_
    refine c_norm ?_
    refine k_rg ?_
    refine s_run rfl rfl (r_mv (v := .int _ _) rfl) ?_
    refine s_run rfl rfl (r_add rfl rfl (wI (by omega))) ?_
    refine s_run rfl rfl (r_as (v := .int _ _) rfl) ?_
    refine k_nil ?_
    refine c_round ?_
    refine ⟨_, _, ?_, rfl, k + 1, _, by omega, rfl, hI, hD, rfl, rfl, rfl, H.drop⟩
    omega
  · obtain rfl : k = q := by omega
    have ho := hI.ok
    have hlen := ho.hl
    have hld := Im.load_save (l := d.last) (by omega) (by omega) hD.l
    have hsl := Im.save_len d.last
    have hbl := Im.body_len d.last.length d.last (Nat.le_refl _)
    have hSv := fun W hE => iSave g d m W hE ho hD.l (by omega)
    have hLd : ∀ A c W, Sees (Value.int .u8) W [] A (Im.save d.last) → Calls Try.prog 45 [.slice A (Im.save d.last).length c].toArray W fun e w' => ∃ g', e = .returned (.tuple #[ptr g'.p, .int .i64 0]) ∧ GOk g' m ∧ Heap W [] (devL g' (Nv.load d.last m)) w' := fun A c W hz => (iLoad A _ c (Im.save d.last) W hz rfl (By.bytes_bd _) (by omega)).mono (by
      rintro e w' (⟨h0, _⟩ | ⟨_, h⟩)
      · rw [hld] at h0; exact absurd rfl h0
      · rw [hld] at h
        have e8 : d.last.length / 8 = m := by omega
        simp only [e8] at h
        exact h)
    have hA := fun W hE => nAll g d m W hE ho (by omega)
    have hoL : Nv.Ok (Nv.load d.last m) m := (Nv.Inv.load _ _ hlen).ok
    have hA2 : ∀ g' W, Ents (devL g' (Nv.load d.last m)) W → Calls Try.prog 47 [ptr g'.p].toArray W fun e w' => ∃ b c', e = .returned (.slice (some ⟨b, 0, none⟩) (8 * m) c') ∧ (8 * m ≤ c' ∧ c' ≤ 9223372036854775807) ∧ Heap W [] [vec (Value.int .u64) b d.last 22] w' := fun g' W hE => nAll g' (Nv.load d.last m) m W hE hoL (by omega)
    have hRs := fun A c W hz hc => iRSave A (8 * m) c d.last W hz hlen hD.l (by omega) hc
    have hSm := fun (A B : Option Addr) (c c2 : Nat) W hx hy => rSame A B (8 * m) (8 * m) c c2 d.last d.last W hx hy hlen hlen (by omega)
    have hDi := fun g' W hE => nDirty0 g' d.last m W hE hlen (by omega)
    have hIs := fun g' W h1 h2 => iSame g' g (Nv.load d.last m) d m m W h1 h2 hoL ho (by omega)
    have es : Nv.same (Nv.load d.last m).last d.last = true := same_self _
    rw [es] at hIs
    rw [same_self] at hSm
    refine k_seq ?_
    refine k_seq ?_
    refine k_rg ?_
    refine s_run rfl rfl (r_mv (v := .int _ _) rfl) ?_
    refine s_run rfl rfl (r_mv (v := .slice _ _ _) rfl) ?_
    refine s_run rfl rfl (r_len rfl Try.underlying46) ?_
    refine s_run rfl rfl (r_lssF rfl rfl (by omega)) ?_
    refine k_nil ?_
    refine c_norm ?_
    refine k_f rfl ?_
    refine k_exit ?_
    refine c_exit ?_
    refine c_exit ?_
    refine b_hit ?_
    refine c_norm ?_
    refine k_seq ?_
    refine k_rg ?_
    refine s_run rfl rfl (r_mv (v := .pointer _) rfl) ?_
    refine s_call rfl (hSv _ (H.grp_ents 0 rfl)) (ca48 rfl) ?_
    rintro e W1 ⟨As, cs, rfl, H'⟩
    refine ⟨_, rfl, ?_⟩
    have H := H.more (A := [_]) H'; clear H'; simp only [List.cons_append, List.nil_append] at H
    refine s_run rfl rfl (r_as (v := .slice _ _ _) rfl) ?_
    refine k_nil ?_
    refine c_norm ?_
    refine k_seq ?_
    refine k_rg ?_
    refine s_run rfl rfl (r_mv (v := .slice _ _ _) rfl) ?_
    refine s_call rfl (hLd _ _ _ (H.own_sees 0 rfl)) (ca45 rfl) ?_
    rintro e W1 ⟨g', rfl, hg', H'⟩
    refine ⟨_, rfl, ?_⟩
    have H := H.more (A := [grp _]) (grp_heap H'); clear H'; simp only [List.cons_append, List.nil_append] at H
    refine s_run rfl rfl (r_mv (v := .tuple _) rfl) ?_
    refine s_run rfl rfl (r_ext (v := .pointer _) rfl rfl) ?_
    refine s_run rfl rfl (r_ext (v := .int _ _) rfl rfl) ?_
    refine s_run rfl rfl (r_as (v := .pointer _) rfl) ?_
    refine s_run rfl rfl (r_as (v := .int _ _) rfl) ?_
    refine k_nil ?_
    refine c_norm ?_
    refine k_seq ?_
    have hsS := H.own_sees 1 rfl
    have hO0 := H.only
    refine k_trF mixed ?_; have H' := H.drew; clear H; have H := H'; clear H'
    refine t_take 0 rfl (by kernel_rfl) (by kernel_rfl) (by kernel_rfl) rfl (fun _ _ _ _ h => h) rfl (fun _ hS => r_mv (v := .int _ _) rfl) trivial ?_
    refine t_take 1 rfl (by kernel_rfl) (by kernel_rfl) (by kernel_rfl) rfl (fun _ _ _ _ h => h) rfl (fun _ hS => r_eqlT rfl rfl (by omega)) trivial ?_
    refine t_take 2 rfl (by kernel_rfl) (by kernel_rfl) (by kernel_rfl) rfl (fun _ _ _ _ h => h) rfl (fun _ hS => r_mv (v := .bool _) rfl) trivial ?_
    refine t_take 3 rfl (by kernel_rfl) (by kernel_rfl) (by kernel_rfl) rfl (fun _ _ _ _ h => h) (g_on 70 (by kernel_rfl) rfl) (fun _ hS => r_mv (v := .pointer _) rfl) trivial ?_
    refine t_take 4 rfl (by kernel_rfl) (by kernel_rfl) (by kernel_rfl) rfl (fun _ _ _ _ h => h) (g_on 70 (by kernel_rfl) rfl) (fun _ hS => r_ptnnilT rfl rfl Try.underlying26) trivial ?_
    refine t_take 5 rfl (by kernel_rfl) (by kernel_rfl) (by kernel_rfl) rfl (fun _ _ _ _ h => h) rfl (fun _ hS => r_pkT (v := .bool _) rfl rfl) trivial ?_
    refine t_take 6 rfl (by kernel_rfl) (by kernel_rfl) (by kernel_rfl) rfl (fun _ _ _ _ h => h) rfl (fun _ hS => r_mv (v := .bool _) rfl) trivial ?_
    refine t_take 7 rfl (by kernel_rfl) (by kernel_rfl) (by kernel_rfl) rfl (fun _ _ _ _ h => h) (g_on 74 (by kernel_rfl) rfl) (fun _ hS => r_mv (v := .slice _ _ _) rfl) trivial ?_
    refine t_take 9 rfl (by kernel_rfl) (by kernel_rfl) (by kernel_rfl) rfl (fun _ _ _ _ h => h) (g_on 74 (by kernel_rfl) rfl) (fun _ hS => r_mv (v := .pointer _) rfl) trivial ?_
    refine t_up2 8 10 (by kernel_rfl) ?_ ?_
    · refine up_mk rfl ?_
      refine s_run rfl (g_on 74 (by kernel_rfl) rfl) (r_str rfl ((by first | exact H.own_sees 1 rfl | exact H.own_sees 2 rfl | exact H.own_sees 3 rfl | exact H.own_sees 4 rfl)) (rfl)) ?_
      refine k_nil ?_
      refine t_on trivial ?_
      refine t_up1 10 (by kernel_rfl) ?_
      refine up_mk rfl ?_
      refine s_call (g_on 74 (by kernel_rfl) rfl) (hA _ (by first | exact H.grp_ents 2 rfl)) (ca47 rfl) ?_
      rintro e W1 ⟨ba, ca, rfl, hca, H'⟩
      refine ⟨_, rfl, ?_⟩
      have H := H.more (A := [_]) H'; clear H'; simp only [List.cons_append, List.nil_append] at H
      refine k_nil ?_
      refine t_on trivial ?_
      refine t_up1 11 (by kernel_rfl) ?_
      refine up_mk rfl ?_
      refine s_call (g_on 74 (by kernel_rfl) rfl) (hRs _ _ _ (H.sees (m := 1) 0 rfl (by simp) (fun _ => rfl) (by simp)) hca) (ca51 rfl) ?_
      rintro e W1 ⟨Ar, cr, rfl, H'⟩
      refine ⟨_, rfl, ?_⟩
      have H := H.more (A := [_]) H'; clear H'; simp only [List.cons_append, List.nil_append] at H
      refine k_nil ?_
      refine t_on trivial ?_
      refine t_up1 12 (by kernel_rfl) ?_
      refine up_mk rfl ?_
      refine s_run rfl (g_on 74 (by kernel_rfl) rfl) (r_str rfl (H.own_sees 0 rfl) (rfl)) ?_
      refine k_nil ?_
      refine t_on trivial ?_
      refine t_take 13 rfl (by kernel_rfl) (by kernel_rfl) (by kernel_rfl) rfl (fun _ _ _ _ h => h) (g_on 74 (by kernel_rfl) rfl) (fun _ hS => r_seq rfl rfl rfl Try.underlying9) trivial ?_
      refine t_take 14 rfl (by kernel_rfl) (by kernel_rfl) (by kernel_rfl) rfl (fun _ _ _ _ h => h) rfl (fun _ hS => r_pkT (v := .bool _) rfl rfl) trivial ?_
      refine t_take 15 rfl (by kernel_rfl) (by kernel_rfl) (by kernel_rfl) rfl (fun _ _ _ _ h => h) rfl (fun _ hS => r_mv (v := .bool _) rfl) trivial ?_
      refine t_take 16 rfl (by kernel_rfl) (by kernel_rfl) (by kernel_rfl) rfl (fun _ _ _ _ h => h) (g_on 83 (by kernel_rfl) rfl) (fun _ hS => r_mv (v := .pointer _) rfl) trivial ?_
      refine t_take 18 rfl (by kernel_rfl) (by kernel_rfl) (by kernel_rfl) rfl (fun _ _ _ _ h => h) (g_on 83 (by kernel_rfl) rfl) (fun _ hS => r_mv (v := .pointer _) rfl) trivial ?_
      refine t_up1 17 (by kernel_rfl) ?_
      refine up_mk rfl ?_
      refine s_call (g_on 83 (by kernel_rfl) rfl) (hA2 g' _ (by first | exact H.grp_ents 2 rfl | exact H.grp_ents 3 rfl)) (ca47 rfl) ?_
      rintro e W1 ⟨bx, cx, rfl, hcx, H'⟩
      refine ⟨_, rfl, ?_⟩
      have H := H.more (A := [_]) H'; clear H'; simp only [List.cons_append, List.nil_append] at H
      refine k_nil ?_
      refine t_on trivial ?_
      refine t_up1 19 (by kernel_rfl) ?_
      refine up_mk rfl ?_
      refine s_call (g_on 83 (by kernel_rfl) rfl) (hA _ (by first | exact H.grp_ents 4 rfl | exact H.grp_ents 5 rfl)) (ca47 rfl) ?_
      rintro e W1 ⟨by', cy, rfl, hcy, H'⟩
      refine ⟨_, rfl, ?_⟩
      have H := H.more (A := [_]) H'; clear H'; simp only [List.cons_append, List.nil_append] at H
      refine k_nil ?_
      refine t_on trivial ?_
      refine t_up1 20 (by kernel_rfl) ?_
      refine up_mk rfl ?_
      refine s_call (g_on 83 (by kernel_rfl) rfl) (hSm (some ⟨bx, 0, none⟩) (some ⟨by', 0, none⟩) _ _ _ (by first | exact H.sees (m := 8 * m) 1 rfl (by simp) (fun _ => rfl) (by omega) | exact H.sees (m := 8 * m) 0 rfl (by simp) (fun _ => rfl) (by omega)) (by first | exact H.sees (m := 8 * m) 0 rfl (by simp) (fun _ => rfl) (by omega) | exact H.sees (m := 8 * m) 1 rfl (by simp) (fun _ => rfl) (by omega))) (ca42 rfl) ?_
      rintro e W1 ⟨rfl, H'⟩
      refine ⟨_, rfl, ?_⟩
      have H := H.same H'; clear H'
      refine k_nil ?_
      refine t_on trivial ?_
      refine t_take 21 rfl (by kernel_rfl) (by kernel_rfl) (by kernel_rfl) rfl (fun _ _ _ _ h => h) rfl (fun _ hS => r_pkT (v := .bool _) rfl rfl) trivial ?_
      refine t_take 22 rfl (by kernel_rfl) (by kernel_rfl) (by kernel_rfl) rfl (fun _ _ _ _ h => h) rfl (fun _ hS => r_mv (v := .bool _) rfl) trivial ?_
      refine t_take 23 rfl (by kernel_rfl) (by kernel_rfl) (by kernel_rfl) rfl (fun _ _ _ _ h => h) (g_on 90 (by kernel_rfl) rfl) (fun _ hS => r_mv (v := .pointer _) rfl) trivial ?_
      refine t_up1 24 (by kernel_rfl) ?_
      refine up_mk rfl ?_
      refine s_call (g_on 90 (by kernel_rfl) rfl) (hDi g' _ (H.grp_ents 4 rfl)) (ca27 rfl) ?_
      rintro e W1 ⟨Ad, cd, rfl, H'⟩
      refine ⟨_, rfl, ?_⟩
      have H := H.same H'; clear H'
      refine k_nil ?_
      refine t_on trivial ?_
      refine t_take 25 rfl (by kernel_rfl) (by kernel_rfl) (by kernel_rfl) rfl (fun _ _ _ _ h => h) (g_on 90 (by kernel_rfl) rfl) (fun _ hS => r_len rfl Try.underlying42) trivial ?_
      refine t_take 26 rfl (by kernel_rfl) (by kernel_rfl) (by kernel_rfl) rfl (fun _ _ _ _ h => h) (g_on 90 (by kernel_rfl) rfl) (fun _ hS => r_eqlT rfl rfl (by omega)) trivial ?_
      refine t_take 27 rfl (by kernel_rfl) (by kernel_rfl) (by kernel_rfl) rfl (fun _ _ _ _ h => h) rfl (fun _ hS => r_pkT (v := .bool _) rfl rfl) trivial ?_
      refine t_take 28 rfl (by kernel_rfl) (by kernel_rfl) (by kernel_rfl) rfl (fun _ _ _ _ h => h) rfl (fun _ hS => r_mv (v := .bool _) rfl) trivial ?_
      refine t_take 29 rfl (by kernel_rfl) (by kernel_rfl) (by kernel_rfl) rfl (fun _ _ _ _ h => h) (g_on 96 (by kernel_rfl) rfl) (fun _ hS => r_mv (v := .pointer _) rfl) trivial ?_
      refine t_take 30 rfl (by kernel_rfl) (by kernel_rfl) (by kernel_rfl) rfl (fun _ _ _ _ h => h) (g_on 96 (by kernel_rfl) rfl) (fun _ hS => r_mv (v := .pointer _) rfl) trivial ?_
      refine t_up1 31 (by kernel_rfl) ?_
      refine up_mk rfl ?_
      refine s_call (g_on 96 (by kernel_rfl) rfl) (hIs g' _ (H.grp_ents 4 rfl) (H.grp_ents 6 rfl)) (ca41 rfl) ?_
      rintro e W1 ⟨rfl, H'⟩
      refine ⟨_, rfl, ?_⟩
      have H := H.same H'; clear H'
      refine k_nil ?_
      refine t_on trivial ?_
      refine t_take 32 rfl (by kernel_rfl) (by kernel_rfl) (by kernel_rfl) rfl (fun _ _ _ _ h => h) rfl (fun _ hS => r_pkT (v := .bool _) rfl rfl) trivial ?_
      refine t_take 33 rfl (by kernel_rfl) (by kernel_rfl) (by kernel_rfl) rfl (fun _ _ _ _ h => h) rfl (fun _ hS => r_as (v := .bool _) rfl) trivial ?_
      refine t_done (by kernel_rfl) ?_
      refine c_norm ?_
      refine k_ret ?_
      refine fin1r (v := .bool _) rfl rfl ?_
      exact ⟨rfl, H.only.below⟩
    · refine up_mk rfl ?_
      refine s_call (g_on 74 (by kernel_rfl) rfl) (hA _ (by first | exact H.grp_ents 2 rfl)) (ca47 rfl) ?_
      rintro e W1 ⟨ba, ca, rfl, hca, H'⟩
      refine ⟨_, rfl, ?_⟩
      have H := H.more (A := [_]) H'; clear H'; simp only [List.cons_append, List.nil_append] at H
      refine k_nil ?_
      refine t_on trivial ?_
      refine t_up2 8 11 (by kernel_rfl) ?_ ?_
      · refine up_mk rfl ?_
        refine s_run rfl (g_on 74 (by kernel_rfl) rfl) (r_str rfl ((by first | exact H.own_sees 1 rfl | exact H.own_sees 2 rfl | exact H.own_sees 3 rfl | exact H.own_sees 4 rfl)) (rfl)) ?_
        refine k_nil ?_
        refine t_on trivial ?_
        refine t_up1 11 (by kernel_rfl) ?_
        refine up_mk rfl ?_
        refine s_call (g_on 74 (by kernel_rfl) rfl) (hRs _ _ _ (H.sees (m := 1) 0 rfl (by simp) (fun _ => rfl) (by simp)) hca) (ca51 rfl) ?_
        rintro e W1 ⟨Ar, cr, rfl, H'⟩
        refine ⟨_, rfl, ?_⟩
        have H := H.more (A := [_]) H'; clear H'; simp only [List.cons_append, List.nil_append] at H
        refine k_nil ?_
        refine t_on trivial ?_
        refine t_up1 12 (by kernel_rfl) ?_
        refine up_mk rfl ?_
        refine s_run rfl (g_on 74 (by kernel_rfl) rfl) (r_str rfl (H.own_sees 0 rfl) (rfl)) ?_
        refine k_nil ?_
        refine t_on trivial ?_
        refine t_take 13 rfl (by kernel_rfl) (by kernel_rfl) (by kernel_rfl) rfl (fun _ _ _ _ h => h) (g_on 74 (by kernel_rfl) rfl) (fun _ hS => r_seq rfl rfl rfl Try.underlying9) trivial ?_
        refine t_take 14 rfl (by kernel_rfl) (by kernel_rfl) (by kernel_rfl) rfl (fun _ _ _ _ h => h) rfl (fun _ hS => r_pkT (v := .bool _) rfl rfl) trivial ?_
        refine t_take 15 rfl (by kernel_rfl) (by kernel_rfl) (by kernel_rfl) rfl (fun _ _ _ _ h => h) rfl (fun _ hS => r_mv (v := .bool _) rfl) trivial ?_
        refine t_take 16 rfl (by kernel_rfl) (by kernel_rfl) (by kernel_rfl) rfl (fun _ _ _ _ h => h) (g_on 83 (by kernel_rfl) rfl) (fun _ hS => r_mv (v := .pointer _) rfl) trivial ?_
        refine t_take 18 rfl (by kernel_rfl) (by kernel_rfl) (by kernel_rfl) rfl (fun _ _ _ _ h => h) (g_on 83 (by kernel_rfl) rfl) (fun _ hS => r_mv (v := .pointer _) rfl) trivial ?_
        refine t_up1 17 (by kernel_rfl) ?_
        refine up_mk rfl ?_
        refine s_call (g_on 83 (by kernel_rfl) rfl) (hA2 g' _ (by first | exact H.grp_ents 2 rfl | exact H.grp_ents 3 rfl)) (ca47 rfl) ?_
        rintro e W1 ⟨bx, cx, rfl, hcx, H'⟩
        refine ⟨_, rfl, ?_⟩
        have H := H.more (A := [_]) H'; clear H'; simp only [List.cons_append, List.nil_append] at H
        refine k_nil ?_
        refine t_on trivial ?_
        refine t_up1 19 (by kernel_rfl) ?_
        refine up_mk rfl ?_
        refine s_call (g_on 83 (by kernel_rfl) rfl) (hA _ (by first | exact H.grp_ents 4 rfl | exact H.grp_ents 5 rfl)) (ca47 rfl) ?_
        rintro e W1 ⟨by', cy, rfl, hcy, H'⟩
        refine ⟨_, rfl, ?_⟩
        have H := H.more (A := [_]) H'; clear H'; simp only [List.cons_append, List.nil_append] at H
        refine k_nil ?_
        refine t_on trivial ?_
        refine t_up1 20 (by kernel_rfl) ?_
        refine up_mk rfl ?_
        refine s_call (g_on 83 (by kernel_rfl) rfl) (hSm (some ⟨bx, 0, none⟩) (some ⟨by', 0, none⟩) _ _ _ (by first | exact H.sees (m := 8 * m) 1 rfl (by simp) (fun _ => rfl) (by omega) | exact H.sees (m := 8 * m) 0 rfl (by simp) (fun _ => rfl) (by omega)) (by first | exact H.sees (m := 8 * m) 0 rfl (by simp) (fun _ => rfl) (by omega) | exact H.sees (m := 8 * m) 1 rfl (by simp) (fun _ => rfl) (by omega))) (ca42 rfl) ?_
        rintro e W1 ⟨rfl, H'⟩
        refine ⟨_, rfl, ?_⟩
        have H := H.same H'; clear H'
        refine k_nil ?_
        refine t_on trivial ?_
        refine t_take 21 rfl (by kernel_rfl) (by kernel_rfl) (by kernel_rfl) rfl (fun _ _ _ _ h => h) rfl (fun _ hS => r_pkT (v := .bool _) rfl rfl) trivial ?_
        refine t_take 22 rfl (by kernel_rfl) (by kernel_rfl) (by kernel_rfl) rfl (fun _ _ _ _ h => h) rfl (fun _ hS => r_mv (v := .bool _) rfl) trivial ?_
        refine t_take 23 rfl (by kernel_rfl) (by kernel_rfl) (by kernel_rfl) rfl (fun _ _ _ _ h => h) (g_on 90 (by kernel_rfl) rfl) (fun _ hS => r_mv (v := .pointer _) rfl) trivial ?_
        refine t_up1 24 (by kernel_rfl) ?_
        refine up_mk rfl ?_
        refine s_call (g_on 90 (by kernel_rfl) rfl) (hDi g' _ (H.grp_ents 4 rfl)) (ca27 rfl) ?_
        rintro e W1 ⟨Ad, cd, rfl, H'⟩
        refine ⟨_, rfl, ?_⟩
        have H := H.same H'; clear H'
        refine k_nil ?_
        refine t_on trivial ?_
        refine t_take 25 rfl (by kernel_rfl) (by kernel_rfl) (by kernel_rfl) rfl (fun _ _ _ _ h => h) (g_on 90 (by kernel_rfl) rfl) (fun _ hS => r_len rfl Try.underlying42) trivial ?_
        refine t_take 26 rfl (by kernel_rfl) (by kernel_rfl) (by kernel_rfl) rfl (fun _ _ _ _ h => h) (g_on 90 (by kernel_rfl) rfl) (fun _ hS => r_eqlT rfl rfl (by omega)) trivial ?_
        refine t_take 27 rfl (by kernel_rfl) (by kernel_rfl) (by kernel_rfl) rfl (fun _ _ _ _ h => h) rfl (fun _ hS => r_pkT (v := .bool _) rfl rfl) trivial ?_
        refine t_take 28 rfl (by kernel_rfl) (by kernel_rfl) (by kernel_rfl) rfl (fun _ _ _ _ h => h) rfl (fun _ hS => r_mv (v := .bool _) rfl) trivial ?_
        refine t_take 29 rfl (by kernel_rfl) (by kernel_rfl) (by kernel_rfl) rfl (fun _ _ _ _ h => h) (g_on 96 (by kernel_rfl) rfl) (fun _ hS => r_mv (v := .pointer _) rfl) trivial ?_
        refine t_take 30 rfl (by kernel_rfl) (by kernel_rfl) (by kernel_rfl) rfl (fun _ _ _ _ h => h) (g_on 96 (by kernel_rfl) rfl) (fun _ hS => r_mv (v := .pointer _) rfl) trivial ?_
        refine t_up1 31 (by kernel_rfl) ?_
        refine up_mk rfl ?_
        refine s_call (g_on 96 (by kernel_rfl) rfl) (hIs g' _ (H.grp_ents 4 rfl) (H.grp_ents 6 rfl)) (ca41 rfl) ?_
        rintro e W1 ⟨rfl, H'⟩
        refine ⟨_, rfl, ?_⟩
        have H := H.same H'; clear H'
        refine k_nil ?_
        refine t_on trivial ?_
        refine t_take 32 rfl (by kernel_rfl) (by kernel_rfl) (by kernel_rfl) rfl (fun _ _ _ _ h => h) rfl (fun _ hS => r_pkT (v := .bool _) rfl rfl) trivial ?_
        refine t_take 33 rfl (by kernel_rfl) (by kernel_rfl) (by kernel_rfl) rfl (fun _ _ _ _ h => h) rfl (fun _ hS => r_as (v := .bool _) rfl) trivial ?_
        refine t_done (by kernel_rfl) ?_
        refine c_norm ?_
        refine k_ret ?_
        refine fin1r (v := .bool _) rfl rfl ?_
        exact ⟨rfl, H.only.below⟩
      · refine up_mk rfl ?_
        refine s_call (g_on 74 (by kernel_rfl) rfl) (hRs _ _ _ (H.sees (m := 1) 0 rfl (by simp) (fun _ => rfl) (by simp)) hca) (ca51 rfl) ?_
        rintro e W1 ⟨Ar, cr, rfl, H'⟩
        refine ⟨_, rfl, ?_⟩
        have H := H.more (A := [_]) H'; clear H'; simp only [List.cons_append, List.nil_append] at H
        refine k_nil ?_
        refine t_on trivial ?_
        refine t_up2 8 12 (by kernel_rfl) ?_ ?_
        · refine up_mk rfl ?_
          refine s_run rfl (g_on 74 (by kernel_rfl) rfl) (r_str rfl ((by first | exact H.own_sees 1 rfl | exact H.own_sees 2 rfl | exact H.own_sees 3 rfl | exact H.own_sees 4 rfl)) (rfl)) ?_
          refine k_nil ?_
          refine t_on trivial ?_
          refine t_up1 12 (by kernel_rfl) ?_
          refine up_mk rfl ?_
          refine s_run rfl (g_on 74 (by kernel_rfl) rfl) (r_str rfl (H.own_sees 0 rfl) (rfl)) ?_
          refine k_nil ?_
          refine t_on trivial ?_
          refine t_take 13 rfl (by kernel_rfl) (by kernel_rfl) (by kernel_rfl) rfl (fun _ _ _ _ h => h) (g_on 74 (by kernel_rfl) rfl) (fun _ hS => r_seq rfl rfl rfl Try.underlying9) trivial ?_
          refine t_take 14 rfl (by kernel_rfl) (by kernel_rfl) (by kernel_rfl) rfl (fun _ _ _ _ h => h) rfl (fun _ hS => r_pkT (v := .bool _) rfl rfl) trivial ?_
          refine t_take 15 rfl (by kernel_rfl) (by kernel_rfl) (by kernel_rfl) rfl (fun _ _ _ _ h => h) rfl (fun _ hS => r_mv (v := .bool _) rfl) trivial ?_
          refine t_take 16 rfl (by kernel_rfl) (by kernel_rfl) (by kernel_rfl) rfl (fun _ _ _ _ h => h) (g_on 83 (by kernel_rfl) rfl) (fun _ hS => r_mv (v := .pointer _) rfl) trivial ?_
          refine t_take 18 rfl (by kernel_rfl) (by kernel_rfl) (by kernel_rfl) rfl (fun _ _ _ _ h => h) (g_on 83 (by kernel_rfl) rfl) (fun _ hS => r_mv (v := .pointer _) rfl) trivial ?_
          refine t_up1 17 (by kernel_rfl) ?_
          refine up_mk rfl ?_
          refine s_call (g_on 83 (by kernel_rfl) rfl) (hA2 g' _ (by first | exact H.grp_ents 2 rfl | exact H.grp_ents 3 rfl)) (ca47 rfl) ?_
          rintro e W1 ⟨bx, cx, rfl, hcx, H'⟩
          refine ⟨_, rfl, ?_⟩
          have H := H.more (A := [_]) H'; clear H'; simp only [List.cons_append, List.nil_append] at H
          refine k_nil ?_
          refine t_on trivial ?_
          refine t_up1 19 (by kernel_rfl) ?_
          refine up_mk rfl ?_
          refine s_call (g_on 83 (by kernel_rfl) rfl) (hA _ (by first | exact H.grp_ents 4 rfl | exact H.grp_ents 5 rfl)) (ca47 rfl) ?_
          rintro e W1 ⟨by', cy, rfl, hcy, H'⟩
          refine ⟨_, rfl, ?_⟩
          have H := H.more (A := [_]) H'; clear H'; simp only [List.cons_append, List.nil_append] at H
          refine k_nil ?_
          refine t_on trivial ?_
          refine t_up1 20 (by kernel_rfl) ?_
          refine up_mk rfl ?_
          refine s_call (g_on 83 (by kernel_rfl) rfl) (hSm (some ⟨bx, 0, none⟩) (some ⟨by', 0, none⟩) _ _ _ (by first | exact H.sees (m := 8 * m) 1 rfl (by simp) (fun _ => rfl) (by omega) | exact H.sees (m := 8 * m) 0 rfl (by simp) (fun _ => rfl) (by omega)) (by first | exact H.sees (m := 8 * m) 0 rfl (by simp) (fun _ => rfl) (by omega) | exact H.sees (m := 8 * m) 1 rfl (by simp) (fun _ => rfl) (by omega))) (ca42 rfl) ?_
          rintro e W1 ⟨rfl, H'⟩
          refine ⟨_, rfl, ?_⟩
          have H := H.same H'; clear H'
          refine k_nil ?_
          refine t_on trivial ?_
          refine t_take 21 rfl (by kernel_rfl) (by kernel_rfl) (by kernel_rfl) rfl (fun _ _ _ _ h => h) rfl (fun _ hS => r_pkT (v := .bool _) rfl rfl) trivial ?_
          refine t_take 22 rfl (by kernel_rfl) (by kernel_rfl) (by kernel_rfl) rfl (fun _ _ _ _ h => h) rfl (fun _ hS => r_mv (v := .bool _) rfl) trivial ?_
          refine t_take 23 rfl (by kernel_rfl) (by kernel_rfl) (by kernel_rfl) rfl (fun _ _ _ _ h => h) (g_on 90 (by kernel_rfl) rfl) (fun _ hS => r_mv (v := .pointer _) rfl) trivial ?_
          refine t_up1 24 (by kernel_rfl) ?_
          refine up_mk rfl ?_
          refine s_call (g_on 90 (by kernel_rfl) rfl) (hDi g' _ (H.grp_ents 4 rfl)) (ca27 rfl) ?_
          rintro e W1 ⟨Ad, cd, rfl, H'⟩
          refine ⟨_, rfl, ?_⟩
          have H := H.same H'; clear H'
          refine k_nil ?_
          refine t_on trivial ?_
          refine t_take 25 rfl (by kernel_rfl) (by kernel_rfl) (by kernel_rfl) rfl (fun _ _ _ _ h => h) (g_on 90 (by kernel_rfl) rfl) (fun _ hS => r_len rfl Try.underlying42) trivial ?_
          refine t_take 26 rfl (by kernel_rfl) (by kernel_rfl) (by kernel_rfl) rfl (fun _ _ _ _ h => h) (g_on 90 (by kernel_rfl) rfl) (fun _ hS => r_eqlT rfl rfl (by omega)) trivial ?_
          refine t_take 27 rfl (by kernel_rfl) (by kernel_rfl) (by kernel_rfl) rfl (fun _ _ _ _ h => h) rfl (fun _ hS => r_pkT (v := .bool _) rfl rfl) trivial ?_
          refine t_take 28 rfl (by kernel_rfl) (by kernel_rfl) (by kernel_rfl) rfl (fun _ _ _ _ h => h) rfl (fun _ hS => r_mv (v := .bool _) rfl) trivial ?_
          refine t_take 29 rfl (by kernel_rfl) (by kernel_rfl) (by kernel_rfl) rfl (fun _ _ _ _ h => h) (g_on 96 (by kernel_rfl) rfl) (fun _ hS => r_mv (v := .pointer _) rfl) trivial ?_
          refine t_take 30 rfl (by kernel_rfl) (by kernel_rfl) (by kernel_rfl) rfl (fun _ _ _ _ h => h) (g_on 96 (by kernel_rfl) rfl) (fun _ hS => r_mv (v := .pointer _) rfl) trivial ?_
          refine t_up1 31 (by kernel_rfl) ?_
          refine up_mk rfl ?_
          refine s_call (g_on 96 (by kernel_rfl) rfl) (hIs g' _ (H.grp_ents 4 rfl) (H.grp_ents 6 rfl)) (ca41 rfl) ?_
          rintro e W1 ⟨rfl, H'⟩
          refine ⟨_, rfl, ?_⟩
          have H := H.same H'; clear H'
          refine k_nil ?_
          refine t_on trivial ?_
          refine t_take 32 rfl (by kernel_rfl) (by kernel_rfl) (by kernel_rfl) rfl (fun _ _ _ _ h => h) rfl (fun _ hS => r_pkT (v := .bool _) rfl rfl) trivial ?_
          refine t_take 33 rfl (by kernel_rfl) (by kernel_rfl) (by kernel_rfl) rfl (fun _ _ _ _ h => h) rfl (fun _ hS => r_as (v := .bool _) rfl) trivial ?_
          refine t_done (by kernel_rfl) ?_
          refine c_norm ?_
          refine k_ret ?_
          refine fin1r (v := .bool _) rfl rfl ?_
          exact ⟨rfl, H.only.below⟩
        · refine up_mk rfl ?_
          refine s_run rfl (g_on 74 (by kernel_rfl) rfl) (r_str rfl (H.own_sees 0 rfl) (rfl)) ?_
          refine k_nil ?_
          refine t_on trivial ?_
          refine t_up1 8 (by kernel_rfl) ?_
          refine up_mk rfl ?_
          refine s_run rfl (g_on 74 (by kernel_rfl) rfl) (r_str rfl ((by first | exact H.own_sees 1 rfl | exact H.own_sees 2 rfl | exact H.own_sees 3 rfl | exact H.own_sees 4 rfl)) (rfl)) ?_
          refine k_nil ?_
          refine t_on trivial ?_
          refine t_take 13 rfl (by kernel_rfl) (by kernel_rfl) (by kernel_rfl) rfl (fun _ _ _ _ h => h) (g_on 74 (by kernel_rfl) rfl) (fun _ hS => r_seq rfl rfl rfl Try.underlying9) trivial ?_
          refine t_take 14 rfl (by kernel_rfl) (by kernel_rfl) (by kernel_rfl) rfl (fun _ _ _ _ h => h) rfl (fun _ hS => r_pkT (v := .bool _) rfl rfl) trivial ?_
          refine t_take 15 rfl (by kernel_rfl) (by kernel_rfl) (by kernel_rfl) rfl (fun _ _ _ _ h => h) rfl (fun _ hS => r_mv (v := .bool _) rfl) trivial ?_
          refine t_take 16 rfl (by kernel_rfl) (by kernel_rfl) (by kernel_rfl) rfl (fun _ _ _ _ h => h) (g_on 83 (by kernel_rfl) rfl) (fun _ hS => r_mv (v := .pointer _) rfl) trivial ?_
          refine t_take 18 rfl (by kernel_rfl) (by kernel_rfl) (by kernel_rfl) rfl (fun _ _ _ _ h => h) (g_on 83 (by kernel_rfl) rfl) (fun _ hS => r_mv (v := .pointer _) rfl) trivial ?_
          refine t_up1 17 (by kernel_rfl) ?_
          refine up_mk rfl ?_
          refine s_call (g_on 83 (by kernel_rfl) rfl) (hA2 g' _ (by first | exact H.grp_ents 2 rfl | exact H.grp_ents 3 rfl)) (ca47 rfl) ?_
          rintro e W1 ⟨bx, cx, rfl, hcx, H'⟩
          refine ⟨_, rfl, ?_⟩
          have H := H.more (A := [_]) H'; clear H'; simp only [List.cons_append, List.nil_append] at H
          refine k_nil ?_
          refine t_on trivial ?_
          refine t_up1 19 (by kernel_rfl) ?_
          refine up_mk rfl ?_
          refine s_call (g_on 83 (by kernel_rfl) rfl) (hA _ (by first | exact H.grp_ents 4 rfl | exact H.grp_ents 5 rfl)) (ca47 rfl) ?_
          rintro e W1 ⟨by', cy, rfl, hcy, H'⟩
          refine ⟨_, rfl, ?_⟩
          have H := H.more (A := [_]) H'; clear H'; simp only [List.cons_append, List.nil_append] at H
          refine k_nil ?_
          refine t_on trivial ?_
          refine t_up1 20 (by kernel_rfl) ?_
          refine up_mk rfl ?_
          refine s_call (g_on 83 (by kernel_rfl) rfl) (hSm (some ⟨bx, 0, none⟩) (some ⟨by', 0, none⟩) _ _ _ (by first | exact H.sees (m := 8 * m) 1 rfl (by simp) (fun _ => rfl) (by omega) | exact H.sees (m := 8 * m) 0 rfl (by simp) (fun _ => rfl) (by omega)) (by first | exact H.sees (m := 8 * m) 0 rfl (by simp) (fun _ => rfl) (by omega) | exact H.sees (m := 8 * m) 1 rfl (by simp) (fun _ => rfl) (by omega))) (ca42 rfl) ?_
          rintro e W1 ⟨rfl, H'⟩
          refine ⟨_, rfl, ?_⟩
          have H := H.same H'; clear H'
          refine k_nil ?_
          refine t_on trivial ?_
          refine t_take 21 rfl (by kernel_rfl) (by kernel_rfl) (by kernel_rfl) rfl (fun _ _ _ _ h => h) rfl (fun _ hS => r_pkT (v := .bool _) rfl rfl) trivial ?_
          refine t_take 22 rfl (by kernel_rfl) (by kernel_rfl) (by kernel_rfl) rfl (fun _ _ _ _ h => h) rfl (fun _ hS => r_mv (v := .bool _) rfl) trivial ?_
          refine t_take 23 rfl (by kernel_rfl) (by kernel_rfl) (by kernel_rfl) rfl (fun _ _ _ _ h => h) (g_on 90 (by kernel_rfl) rfl) (fun _ hS => r_mv (v := .pointer _) rfl) trivial ?_
          refine t_up1 24 (by kernel_rfl) ?_
          refine up_mk rfl ?_
          refine s_call (g_on 90 (by kernel_rfl) rfl) (hDi g' _ (H.grp_ents 4 rfl)) (ca27 rfl) ?_
          rintro e W1 ⟨Ad, cd, rfl, H'⟩
          refine ⟨_, rfl, ?_⟩
          have H := H.same H'; clear H'
          refine k_nil ?_
          refine t_on trivial ?_
          refine t_take 25 rfl (by kernel_rfl) (by kernel_rfl) (by kernel_rfl) rfl (fun _ _ _ _ h => h) (g_on 90 (by kernel_rfl) rfl) (fun _ hS => r_len rfl Try.underlying42) trivial ?_
          refine t_take 26 rfl (by kernel_rfl) (by kernel_rfl) (by kernel_rfl) rfl (fun _ _ _ _ h => h) (g_on 90 (by kernel_rfl) rfl) (fun _ hS => r_eqlT rfl rfl (by omega)) trivial ?_
          refine t_take 27 rfl (by kernel_rfl) (by kernel_rfl) (by kernel_rfl) rfl (fun _ _ _ _ h => h) rfl (fun _ hS => r_pkT (v := .bool _) rfl rfl) trivial ?_
          refine t_take 28 rfl (by kernel_rfl) (by kernel_rfl) (by kernel_rfl) rfl (fun _ _ _ _ h => h) rfl (fun _ hS => r_mv (v := .bool _) rfl) trivial ?_
          refine t_take 29 rfl (by kernel_rfl) (by kernel_rfl) (by kernel_rfl) rfl (fun _ _ _ _ h => h) (g_on 96 (by kernel_rfl) rfl) (fun _ hS => r_mv (v := .pointer _) rfl) trivial ?_
          refine t_take 30 rfl (by kernel_rfl) (by kernel_rfl) (by kernel_rfl) rfl (fun _ _ _ _ h => h) (g_on 96 (by kernel_rfl) rfl) (fun _ hS => r_mv (v := .pointer _) rfl) trivial ?_
          refine t_up1 31 (by kernel_rfl) ?_
          refine up_mk rfl ?_
          refine s_call (g_on 96 (by kernel_rfl) rfl) (hIs g' _ (H.grp_ents 4 rfl) (H.grp_ents 6 rfl)) (ca41 rfl) ?_
          rintro e W1 ⟨rfl, H'⟩
          refine ⟨_, rfl, ?_⟩
          have H := H.same H'; clear H'
          refine k_nil ?_
          refine t_on trivial ?_
          refine t_take 32 rfl (by kernel_rfl) (by kernel_rfl) (by kernel_rfl) rfl (fun _ _ _ _ h => h) rfl (fun _ hS => r_pkT (v := .bool _) rfl rfl) trivial ?_
          refine t_take 33 rfl (by kernel_rfl) (by kernel_rfl) (by kernel_rfl) rfl (fun _ _ _ _ h => h) rfl (fun _ hS => r_as (v := .bool _) rfl) trivial ?_
          refine t_done (by kernel_rfl) ?_
          refine c_norm ?_
          refine k_ret ?_
          refine fin1r (v := .bool _) rfl rfl ?_
          exact ⟨rfl, H.only.below⟩
end Go.Proofs.Ytmekhdclnhhhbaa
end

section
namespace Go.Proofs.Ytmekhdclnhhhbaa.lImageSaves
open Go.ChangeShapes Go.WideShapes Go.ChangeAt Go.RowKit
set_option linter.unusedVariables false
theorem own : ownKnob Try.prog.godebug = none := by kernel_rfl
theorem laidOut : laidOutB Try.prog = true := by kernel_rfl
set_option maxRecDepth 100000 in
theorem lifted (os : Os) (started : os.Started) (H : Type) (enc : TypeId × Value → H) :
    ReturnsInHanded {} Try.checked os 11 .any (Rows.imageSavesSpec.pre6 enc Try.prog Try.f11 Rows.imageSavesRow.domain false) (Rows.imageSavesSpec.post enc Try.prog Try.f11 false true false false) := by
  refine returnsInHanded_of_change (C := Try.checked) own started (by kernel_rfl) Try.func11
    (ChangeSpec.witness6 (enc := enc) (C := Try.checked) false ⟨#[], #[.slice none 0 0, .slice none 0 0], []⟩ 8 (by kernel_rfl) (by kernel_rfl) (by kernel_rfl) (by kernel_rfl)) ?_
  intro W base args ds gs before hval0 hW hcnd _
  have hval : ∀ (j : Nat) t v, Try.f11.params[j]? = some t → args[j]? = some v → Value.okWide Try.prog W .any base t v := hval0
  have hW' := hW
  obtain ⟨p, q, hA0, hV, rfl, hfz, hnd⟩ := hW
  have hA : DataW.TrodAll enc Try.prog W 0 (fun _ => true) true Try.f11.params.toList args.toList ds p := hA0
  rw [Try.params11] at hA hval
  obtain ⟨v0, vs0, d0, ds0, p0, q0, hargs, rfl, rfl, h0, r0⟩ := trodAll_cons hA
  obtain ⟨v1, vs1, d1, ds1, p1, q1, rfl, rfl, rfl, h1, r1⟩ := trodAll_cons r0
  obtain ⟨rfl, rfl, rfl⟩ := trodAll_nil r1
  obtain rfl : args = #[v0, v1] := by cases args; simp_all
  obtain ⟨rfl, rfl⟩ := trodVars_none hV
  have k0 := h0
  have lt0 : ∀ x ∈ p0, x.block < W.heap.size := by obtain ⟨m, hm⟩ := k0; exact DataW.trod_lt m _ _ _ hm
  have k1 := h1
  have lt1 : ∀ x ∈ p1, x.block < W.heap.size := by obtain ⟨m, hm⟩ := k1; exact DataW.trod_lt m _ _ _ hm
  obtain ⟨a0, len0, cap0, rfl⟩ := okWide_slice Try.underlying25 (hval 0 25 v0 rfl rfl)
  obtain ⟨z0, w0⟩ := open_row Try.underlying25 Try.underlying22 (by kernel_rfl) h0
  obtain ⟨x1, rfl, w1⟩ := open_script W base v1 d1 p1 (hval 1 46 v1 rfl rfl) h1
  clear hA0 hval0
  refine (walk_ImageSaves a0 len0 cap0 z0 x1 W w0 w1).mono fun e W' ⟨he, bel⟩ => ?_
  subst he
  exact ⟨_, rfl, _, _, _, [], _, [], hW', trodAll_mk1 (shut_bool Try.underlying4 _), (trodAll_cons_mk (Below.trod laidOut (by kernel_rfl) (of_decide_eq_true (by kernel_rfl)) k0 bel lt0) (trodAll_cons_mk (Below.trod laidOut (by kernel_rfl) (of_decide_eq_true (by kernel_rfl)) k1 bel lt1) trodAll_mk0)), rfl, bel.frame _, fun h => by cases h⟩
theorem over : Rows.imageSavesRow.holds Try.pinned (OpenSpec.ofChange Rows.imageSavesSpec) :=
  OpenClaim.holds_of_wide 11 Try.f11 rfl rfl rfl rfl rfl rfl rfl ⟨rfl, rfl, rfl, rfl, rfl⟩ rfl rfl rfl rfl rfl (by kernel_rfl) Try.func11 (by kernel_rfl)
    (of_decide_eq_true (by kernel_rfl)) (by unfold Func.isWrapper; first | (rw [if_pos (by decide +kernel)]; kernel_rfl) | (rw [if_neg (by decide +kernel)]; exact ⟨rfl, rfl⟩))
    (fun os started H enc _ => lifted os started H enc)
theorem proved : Rows.ImageSavesSaid := over
#print axioms proved
end Go.Proofs.Ytmekhdclnhhhbaa.lImageSaves
end
