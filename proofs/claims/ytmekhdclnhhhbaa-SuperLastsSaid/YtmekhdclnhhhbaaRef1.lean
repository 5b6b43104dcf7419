/- The document's device: a struct of slices that are only read; lines, flags, step. -/
import Derived.Test.YtmekhdclnhhhbaaNvm7
namespace Go.Proofs.Ytmekhdclnhhhbaa
open Go.RowKit
set_option linter.unusedSimpArgs false
set_option linter.unusedVariables false
def fuseRel (d : Nv.D) (rf : Int) : Prop := (d.armed = true ∧ rf = d.fuse ∧ 0 ≤ rf ∧ rf ≤ 9223372036854775807) ∨ (d.armed = false ∧ rf = -1)
structure RefS where
  A0 : Option Addr
  c0 : Nat
  A1 : Option Addr
  c1 : Nat
  A2 : Option Addr
  c2 : Nat
  A3 : Option Addr
  c3 : Nat
  A4 : Option Addr
  c4 : Nat
  rf : Int
def refCells (s : RefS) (d : Nv.D) (m : Nat) : List Value := [.slice s.A0 m s.c0, .slice s.A1 m s.c1, .slice s.A2 m s.c2, .slice s.A3 m s.c3, .slice s.A4 m s.c4, .int .i64 d.steps, .int .i64 s.rf, .bool d.dead]
/-- the document's device that is d, out of blocks that are not of F -/
structure RefOk (w : World) (F : List Nat) (s : RefS) (d : Nv.D) (m : Nat) : Prop where
  now : Sees (Value.int .u64) w F s.A0 d.cache
  last : Sees (Value.int .u64) w F s.A1 d.last
  wait : Sees (Value.int .u64) w F s.A2 d.fl
  dirty : Sees Value.bool w F s.A3 d.dirty
  pend : Sees Value.bool w F s.A4 d.pend
  fuse : fuseRel d s.rf
  ok : Nv.Ok d m
theorem RefOk.later {w W : World} {F G : List Nat} {s : RefS} {d : Nv.D} {m : Nat} (h : RefOk w F s d m) (hO : Only G w W) (hG : ∀ i ∈ G, i ∈ F) : RefOk W F s d m :=
  ⟨h.now.later hO hG, h.last.later hO hG, h.wait.later hO hG, h.dirty.later hO hG, h.pend.later hO hG, h.fuse, h.ok⟩
theorem RefOk.killed {w : World} {F : List Nat} {s : RefS} {d : Nv.D} {m : Nat} (h : RefOk w F s d m) : RefOk w F s (Nv.killed d) m :=
  ⟨h.now, h.last, h.wait, h.dirty, h.pend, h.fuse, h.ok.killed⟩
theorem rLines (A : Option Addr) (m c : Nat) (zs : List Int) (w : World) (hz : Sees (Value.int .u64) w [] A zs) (hl : zs.length = m * 8) (hm : m ≤ 100000) :
    Calls Try.prog 111 [.slice A m c].toArray w fun e w' => ∃ A' b c', e = .returned (.slice A' m c') ∧ (m ≠ 0 → A' = some ⟨b, 0, none⟩) ∧ Heap w [] [vec (Value.int .u64) b zs 124] w' := by
  have H := Heap.nil w
  refine k_in (N := 6) Try.func111 rfl rfl rfl ?_
  refine k_seq ?_
  refine k_rg ?_
  refine s_run rfl rfl (r_as (v := .slice _ _ _) rfl) ?_
  refine k_nil ?_
  refine c_norm ?_
  refine k_seq ?_
  refine k_rg ?_
  refine s_bs0 8 (by omega) H rfl Try.underlying52 inf124 ?_
  intro _ _ H'; clear H; have H := H'; clear H'
  refine s_run rfl rfl (r_mv (v := .slice _ _ _) rfl) ?_
  refine s_apsN (enc := (Value.int .u64)) (xs := []) H 0 rfl rfl rfl rfl (hz) (hl) (fun _ => rfl) (by omega) (by omega) Try.underlying52 inf124 rfl ?_
  intro A' c' _ H'; simp only [List.set_cons_zero, List.set_cons_succ, List.take_succ_cons, List.take_zero, List.drop_succ_cons, List.drop_zero, List.cons_append, List.nil_append, List.append_nil, List.length_cons, List.length_nil, Nat.reduceAdd] at H'; clear H; have H := H'; clear H'
  refine s_run rfl rfl (r_as (v := .slice _ _ _) rfl) ?_
  refine k_nil ?_
  refine c_norm ?_
  refine k_ret ?_
  refine fin1r (v := .slice _ _ _) rfl rfl ?_
  rw [Nat.zero_add] at H
  obtain ⟨b, hb, _, H⟩ := own_vecN (by omega) H
  exact ⟨A', b, c', by rw [Nat.zero_add], hb, H⟩
theorem rFlags (A : Option Addr) (m c : Nat) (zs : List Bool) (w : World) (hz : Sees Value.bool w [] A zs) (hl : zs.length = m) (hm : m ≤ 100000) :
    Calls Try.prog 112 [.slice A m c].toArray w fun e w' => ∃ A' b c', e = .returned (.slice A' m c') ∧ (m ≠ 0 → A' = some ⟨b, 0, none⟩) ∧ Heap w [] [vec Value.bool b zs 4] w' := by
  have H := Heap.nil w
  refine k_in (N := 6) Try.func112 rfl rfl rfl ?_
  refine k_seq ?_
  refine k_rg ?_
  refine s_run rfl rfl (r_as (v := .slice _ _ _) rfl) ?_
  refine k_nil ?_
  refine c_norm ?_
  refine k_seq ?_
  refine k_rg ?_
  refine s_bs0 1 (by omega) H rfl Try.underlying53 inf4 ?_
  intro _ _ H'; clear H; have H := H'; clear H'
  refine s_run rfl rfl (r_mv (v := .slice _ _ _) rfl) ?_
  refine s_apps (enc := Value.bool) (xs := []) H 0 rfl rfl rfl rfl (hz) (hl) (fun _ => rfl) (by omega) Try.underlying53 inf4 rfl ?_
  intro A' c' _ _ H'; simp only [List.set_cons_zero, List.set_cons_succ, List.take_succ_cons, List.take_zero, List.drop_succ_cons, List.drop_zero, List.cons_append, List.nil_append, List.append_nil, List.length_cons, List.length_nil, Nat.reduceAdd] at H'; clear H; have H := H'; clear H'
  refine s_run rfl rfl (r_as (v := .slice _ _ _) rfl) ?_
  refine k_nil ?_
  refine c_norm ?_
  refine k_ret ?_
  refine fin1r (v := .slice _ _ _) rfl rfl ?_
  rw [Nat.zero_add] at H
  obtain ⟨b, hb, H⟩ := own_vec0 H
  exact ⟨A', b, c', by rw [Nat.zero_add], hb, H⟩
theorem rStep (s : RefS) (d : Nv.D) (m : Nat) (w : World) (hf : fuseRel d s.rf) :
    Calls Try.prog 110 [.agg (refCells s d m).toArray].toArray w fun e w' => ∃ rf, e = .returned (.tuple #[.agg (refCells { s with rf := rf } (if Nv.stops d = true then Nv.killed d else Nv.stepped d) m).toArray, .bool (!Nv.stops d)]) ∧ Only [] w w' ∧ fuseRel (if Nv.stops d = true then Nv.killed d else Nv.stepped d) rf := by
  have H := Heap.nil w
  by_cases hs : Nv.stops d = true
  · rw [if_pos hs, hs]
    by_cases h1 : d.dead = true
    · have hd : refCells s d m = [.slice s.A0 m s.c0, .slice s.A1 m s.c1, .slice s.A2 m s.c2, .slice s.A3 m s.c3, .slice s.A4 m s.c4, .int .i64 d.steps, .int .i64 s.rf, .bool true] := by unfold refCells; rw [h1]
      rw [hd]
      refine k_in (N := 25) Try.func110 rfl rfl rfl ?_
      refine k_seq ?_
      refine k_rg ?_
      refine s_box H rfl rfl ?_
      intro p1 _ H'; clear H; have H := H'; clear H'
      refine s_al H rfl inf55 ?_
      intro p2 _ H'; clear H; have H := H'; clear H'
      refine s_run rfl rfl (r_as (v := .bool _) rfl) ?_
      refine k_nil ?_
      refine c_norm ?_
      refine k_seq ?_
      refine k_seq ?_
      refine k_rg ?_
      refine s_run rfl rfl (r_fa0 rfl fo55_7) ?_
      refine s_run rfl rfl (r_lo H 1 rfl rfl rfl ag4) ?_
      refine s_run rfl rfl (r_mv (v := .bool _) rfl) ?_
      refine s_off rfl (g_off 6 (by kernel_rfl) rfl rfl) ?_
      refine s_off rfl (g_off 6 (by kernel_rfl) rfl rfl) ?_
      refine s_off rfl (g_off 6 (by kernel_rfl) rfl rfl) ?_
      refine s_run rfl rfl (r_pkT (v := .bool _) rfl rfl) ?_
      refine k_nil ?_
      refine c_norm ?_
      refine k_t rfl ?_
      refine k_seq ?_
      refine k_rg ?_
      refine s_run rfl rfl (r_fa0 rfl fo55_7) ?_
      refine s_st (u := .bool _) H 1 rfl rfl rfl rfl rfl rfl sz4 ?_
      intro _ H'; simp only [List.set_cons_zero, List.set_cons_succ, List.take_succ_cons, List.take_zero, List.drop_succ_cons, List.drop_zero, List.cons_append, List.nil_append, List.append_nil, List.length_cons, List.length_nil, Nat.reduceAdd] at H'; clear H; have H := H'; clear H'
      refine k_nil ?_
      refine c_norm ?_
      refine k_seq ?_
      refine k_rg ?_
      refine s_run rfl rfl (r_la H 1 rfl rfl rfl ag55 sz55) ?_
      refine s_sw H 0 rfl rfl rfl rfl rfl rfl rfl sz55 ?_
      intro _ H'; simp only [List.set_cons_zero, List.set_cons_succ, List.take_succ_cons, List.take_zero, List.drop_succ_cons, List.drop_zero, List.cons_append, List.nil_append, List.append_nil, List.length_cons, List.length_nil, Nat.reduceAdd] at H'; clear H; have H := H'; clear H'
      refine s_run rfl rfl (r_as (v := .bool _) rfl) ?_
      refine k_nil ?_
      refine c_norm ?_
      refine k_ret ?_
      refine c_ret ?_
      refine fx2r rfl (rv_a H 0 rfl rfl rfl ag55 sz55) (rv_t (v := .bool _) rfl) ?_
      exact ⟨s.rf, rfl, H.only, hf⟩
    · have h1 : d.dead = false := by simpa using h1
      have h2 : d.armed = true ∧ d.fuse = 0 := by simpa [Nv.stops, h1] using hs
      have h3 : s.rf = 0 := by
        rcases hf with ⟨_, e, _⟩ | ⟨e, _⟩
        · rw [e, h2.2]
        · rw [h2.1] at e; cases e
      have hd : refCells s d m = [.slice s.A0 m s.c0, .slice s.A1 m s.c1, .slice s.A2 m s.c2, .slice s.A3 m s.c3, .slice s.A4 m s.c4, .int .i64 d.steps, .int .i64 s.rf, .bool false] := by unfold refCells; rw [h1]
      rw [hd]
      refine k_in (N := 25) Try.func110 rfl rfl rfl ?_
      refine k_seq ?_
      refine k_rg ?_
      refine s_box H rfl rfl ?_
      intro p1 _ H'; clear H; have H := H'; clear H'
      refine s_al H rfl inf55 ?_
      intro p2 _ H'; clear H; have H := H'; clear H'
      refine s_run rfl rfl (r_as (v := .bool _) rfl) ?_
      refine k_nil ?_
      refine c_norm ?_
      refine k_seq ?_
      refine k_seq ?_
      refine k_rg ?_
      refine s_run rfl rfl (r_fa0 rfl fo55_7) ?_
      refine s_run rfl rfl (r_lo H 1 rfl rfl rfl ag4) ?_
      refine s_run rfl rfl (r_mv (v := .bool _) rfl) ?_
      refine s_run rfl (g_on 6 (by kernel_rfl) rfl) (r_fa0 rfl fo55_6) ?_
      refine s_run rfl (g_on 6 (by kernel_rfl) rfl) (r_lo H 1 rfl rfl rfl ag3) ?_
      refine s_run rfl (g_on 6 (by kernel_rfl) rfl) (r_eqlT rfl rfl (by omega)) ?_
      refine s_run rfl rfl (r_pkF (v := .bool _) rfl rfl) ?_
      refine k_nil ?_
      refine c_norm ?_
      refine k_t rfl ?_
      refine k_seq ?_
      refine k_rg ?_
      refine s_run rfl rfl (r_fa0 rfl fo55_7) ?_
      refine s_st (u := .bool _) H 1 rfl rfl rfl rfl rfl rfl sz4 ?_
      intro _ H'; simp only [List.set_cons_zero, List.set_cons_succ, List.take_succ_cons, List.take_zero, List.drop_succ_cons, List.drop_zero, List.cons_append, List.nil_append, List.append_nil, List.length_cons, List.length_nil, Nat.reduceAdd] at H'; clear H; have H := H'; clear H'
      refine k_nil ?_
      refine c_norm ?_
      refine k_seq ?_
      refine k_rg ?_
      refine s_run rfl rfl (r_la H 1 rfl rfl rfl ag55 sz55) ?_
      refine s_sw H 0 rfl rfl rfl rfl rfl rfl rfl sz55 ?_
      intro _ H'; simp only [List.set_cons_zero, List.set_cons_succ, List.take_succ_cons, List.take_zero, List.drop_succ_cons, List.drop_zero, List.cons_append, List.nil_append, List.append_nil, List.length_cons, List.length_nil, Nat.reduceAdd] at H'; clear H; have H := H'; clear H'
      refine s_run rfl rfl (r_as (v := .bool _) rfl) ?_
      refine k_nil ?_
      refine c_norm ?_
      refine k_ret ?_
      refine c_ret ?_
      refine fx2r rfl (rv_a H 0 rfl rfl rfl ag55 sz55) (rv_t (v := .bool _) rfl) ?_
      exact ⟨s.rf, rfl, H.only, hf⟩
  · have hs : Nv.stops d = false := by simpa using hs
    rw [hs, if_neg (by simp)]
    have h1 : d.dead = false ∧ (d.armed = true → ¬ d.fuse = 0) := by simpa [Nv.stops] using hs
    have hd : refCells s d m = [.slice s.A0 m s.c0, .slice s.A1 m s.c1, .slice s.A2 m s.c2, .slice s.A3 m s.c3, .slice s.A4 m s.c4, .int .i64 d.steps, .int .i64 s.rf, .bool false] := by unfold refCells; rw [h1.1]
    rw [hd]
    rcases hf with ⟨a1, a2, a3, a5⟩ | ⟨a1, a2⟩
    · have a4 : 0 < s.rf := by have := h1.2 a1; omega
      refine k_in (N := 25) Try.func110 rfl rfl rfl ?_
      refine k_seq ?_
      refine k_rg ?_
      refine s_box H rfl rfl ?_
      intro p1 _ H'; clear H; have H := H'; clear H'
      refine s_al H rfl inf55 ?_
      intro p2 _ H'; clear H; have H := H'; clear H'
      refine s_run rfl rfl (r_as (v := .bool _) rfl) ?_
      refine k_nil ?_
      refine c_norm ?_
      refine k_seq ?_
      refine k_seq ?_
      refine k_rg ?_
      refine s_run rfl rfl (r_fa0 rfl fo55_7) ?_
      refine s_run rfl rfl (r_lo H 1 rfl rfl rfl ag4) ?_
      refine s_run rfl rfl (r_mv (v := .bool _) rfl) ?_
      refine s_run rfl (g_on 6 (by kernel_rfl) rfl) (r_fa0 rfl fo55_6) ?_
      refine s_run rfl (g_on 6 (by kernel_rfl) rfl) (r_lo H 1 rfl rfl rfl ag3) ?_
      refine s_run rfl (g_on 6 (by kernel_rfl) rfl) (r_eqlF rfl rfl (by omega)) ?_
      refine s_run rfl rfl (r_pkF (v := .bool _) rfl rfl) ?_
      refine k_nil ?_
      refine c_norm ?_
      refine k_f rfl ?_
      refine k_skip ?_
      refine c_norm ?_
      refine k_seq ?_
      refine k_seq ?_
      refine k_rg ?_
      refine s_run rfl rfl (r_fa0 rfl fo55_6) ?_
      refine s_run rfl rfl (r_lo H 1 rfl rfl rfl ag3) ?_
      refine s_run rfl rfl (r_gtrT rfl rfl (by omega)) ?_
      refine k_nil ?_
      refine c_norm ?_
      refine k_t rfl ?_
      refine k_rg ?_
      refine s_run rfl rfl (r_fa0 rfl fo55_6) ?_
      refine s_run rfl rfl (r_lo H 1 rfl rfl rfl ag3) ?_
      refine s_run rfl rfl (r_sub rfl rfl (wI (by omega))) ?_
      refine s_run rfl rfl (r_fa0 rfl fo55_6) ?_
      refine s_st (u := .int _ _) H 1 rfl rfl rfl rfl rfl rfl sz3 ?_
      intro _ H'; simp only [List.set_cons_zero, List.set_cons_succ, List.take_succ_cons, List.take_zero, List.drop_succ_cons, List.drop_zero, List.cons_append, List.nil_append, List.append_nil, List.length_cons, List.length_nil, Nat.reduceAdd] at H'; clear H; have H := H'; clear H'
      refine k_nil ?_
      refine c_norm ?_
      refine k_seq ?_
      refine k_rg ?_
      refine s_run rfl rfl (r_fa0 rfl fo55_5) ?_
      refine s_run rfl rfl (r_lo H 1 rfl rfl rfl ag3) ?_
      refine s_run rfl rfl (r_add rfl rfl rfl) ?_
      refine s_run rfl rfl (r_fa0 rfl fo55_5) ?_
      refine s_st (u := .int _ _) H 1 rfl rfl rfl rfl rfl rfl sz3 ?_
      intro _ H'; simp only [List.set_cons_zero, List.set_cons_succ, List.take_succ_cons, List.take_zero, List.drop_succ_cons, List.drop_zero, List.cons_append, List.nil_append, List.append_nil, List.length_cons, List.length_nil, Nat.reduceAdd] at H'; clear H; have H := H'; clear H'
      refine k_nil ?_
      refine c_norm ?_
      refine k_seq ?_
      refine k_rg ?_
      refine s_run rfl rfl (r_la H 1 rfl rfl rfl ag55 sz55) ?_
      refine s_sw H 0 rfl rfl rfl rfl rfl rfl rfl sz55 ?_
      intro _ H'; simp only [List.set_cons_zero, List.set_cons_succ, List.take_succ_cons, List.take_zero, List.drop_succ_cons, List.drop_zero, List.cons_append, List.nil_append, List.append_nil, List.length_cons, List.length_nil, Nat.reduceAdd] at H'; clear H; have H := H'; clear H'
      refine s_run rfl rfl (r_as (v := .bool _) rfl) ?_
      refine k_nil ?_
      refine c_norm ?_
      refine k_ret ?_
      refine fx2r rfl (rv_a H 0 rfl rfl rfl ag55 sz55) (rv_t (v := .bool _) rfl) ?_
      have ef : IntKind.i64.wrap (d.fuse - 1) = s.rf - 1 := by rw [← a2]; exact wI (by omega)
      refine ⟨s.rf - 1, ?_, H.only, .inl ⟨a1, ef.symm, by omega, by omega⟩⟩
      simp only [refCells, Nv.stepped, h1.1]; rfl
    · refine k_in (N := 25) Try.func110 rfl rfl rfl ?_
      refine k_seq ?_
      refine k_rg ?_
      refine s_box H rfl rfl ?_
      intro p1 _ H'; clear H; have H := H'; clear H'
      refine s_al H rfl inf55 ?_
      intro p2 _ H'; clear H; have H := H'; clear H'
      refine s_run rfl rfl (r_as (v := .bool _) rfl) ?_
      refine k_nil ?_
      refine c_norm ?_
      refine k_seq ?_
      refine k_seq ?_
      refine k_rg ?_
      refine s_run rfl rfl (r_fa0 rfl fo55_7) ?_
      refine s_run rfl rfl (r_lo H 1 rfl rfl rfl ag4) ?_
      refine s_run rfl rfl (r_mv (v := .bool _) rfl) ?_
      refine s_run rfl (g_on 6 (by kernel_rfl) rfl) (r_fa0 rfl fo55_6) ?_
      refine s_run rfl (g_on 6 (by kernel_rfl) rfl) (r_lo H 1 rfl rfl rfl ag3) ?_
      refine s_run rfl (g_on 6 (by kernel_rfl) rfl) (r_eqlF rfl rfl (by omega)) ?_
      refine s_run rfl rfl (r_pkF (v := .bool _) rfl rfl) ?_
      refine k_nil ?_
      refine c_norm ?_
      refine k_f rfl ?_
      refine k_skip ?_
      refine c_norm ?_
      refine k_seq ?_
      refine k_seq ?_
      refine k_rg ?_
      refine s_run rfl rfl (r_fa0 rfl fo55_6) ?_
      refine s_run rfl rfl (r_lo H 1 rfl rfl rfl ag3) ?_
      refine s_run rfl rfl (r_gtrF rfl rfl (by omega)) ?_
      refine k_nil ?_
      refine c_norm ?_
      refine k_f rfl ?_
      refine k_skip ?_
      refine c_norm ?_
      refine k_seq ?_
      refine k_rg ?_
      refine s_run rfl rfl (r_fa0 rfl fo55_5) ?_
      refine s_run rfl rfl (r_lo H 1 rfl rfl rfl ag3) ?_
      refine s_run rfl rfl (r_add rfl rfl rfl) ?_
      refine s_run rfl rfl (r_fa0 rfl fo55_5) ?_
      refine s_st (u := .int _ _) H 1 rfl rfl rfl rfl rfl rfl sz3 ?_
      intro _ H'; simp only [List.set_cons_zero, List.set_cons_succ, List.take_succ_cons, List.take_zero, List.drop_succ_cons, List.drop_zero, List.cons_append, List.nil_append, List.append_nil, List.length_cons, List.length_nil, Nat.reduceAdd] at H'; clear H; have H := H'; clear H'
      refine k_nil ?_
      refine c_norm ?_
      refine k_seq ?_
      refine k_rg ?_
      refine s_run rfl rfl (r_la H 1 rfl rfl rfl ag55 sz55) ?_
      refine s_sw H 0 rfl rfl rfl rfl rfl rfl rfl sz55 ?_
      intro _ H'; simp only [List.set_cons_zero, List.set_cons_succ, List.take_succ_cons, List.take_zero, List.drop_succ_cons, List.drop_zero, List.cons_append, List.nil_append, List.append_nil, List.length_cons, List.length_nil, Nat.reduceAdd] at H'; clear H; have H := H'; clear H'
      refine s_run rfl rfl (r_as (v := .bool _) rfl) ?_
      refine k_nil ?_
      refine c_norm ?_
      refine k_ret ?_
      refine fx2r rfl (rv_a H 0 rfl rfl rfl ag55 sz55) (rv_t (v := .bool _) rfl) ?_
      refine ⟨s.rf, ?_, H.only, .inr ⟨a1, a2⟩⟩
      simp only [refCells, Nv.stepped, h1.1]; rfl
end Go.Proofs.Ytmekhdclnhhhbaa
