/- The arguments as the law functions read them; NvmPlays. -/
import Derived.Test.YtmekhdclnhhhbaaLw4
import Derived.Test.YtmekhdclnhhhbaaCom
import Derived.Deep.Slices
import Derived.Deep.Fields
import Derived.ChangeSame
namespace Go.Proofs.Ytmekhdclnhhhbaa
set_option linter.unusedSimpArgs false
set_option linter.unusedVariables false
section
open Go.ChangeShapes Go.WideShapes Go.Deep
variable {H : Type} {enc : TypeId × Value → H} {w : World} {base : Nat} {spare : Nat → Bool} {held : Bool}
theorem add_none {b o i : Nat} : (⟨b, o, none⟩ : Addr).add i = ⟨b, o + i, none⟩ := by
  unfold Addr.add; split
  · subst_vars; rfl
  · rfl
theorem sees_row {k : IntKind} {t e : TypeId} {fuel : Nat} {v : Value} {y : DataW H × List MemPlace} (ht : Try.prog.underlying t = some (.slice e)) (he : Try.prog.underlying e = some (.int k)) (hc : Try.prog.cellsOf e = 1)
    (h : DataW.trod enc Try.prog w base spare held fuel t [v] = some y) :
    ∃ A n c xs, v = .slice A n c ∧ Sees (Value.int k) w [] A xs ∧ xs.length = n ∧ n ≤ c ∧ c ≤ maxLen ∧ ∀ z ∈ xs, (Lit.int k z).wf = true := by
  rcases open_ints ht he hc h with ⟨hcs, _⟩ | ⟨x, l, c, zs, hcs, _, hl, hm, hz, _, hcell, hwf⟩
  · injection hcs with hv _
    exact ⟨none, 0, 0, [], hv, Sees.nil, rfl, by omega, by decide, by simp⟩
  · injection hcs with hv _
    have hzl : l ≤ zs.length := by rw [hz]; split <;> omega
    refine ⟨some x, l, c, zs.take l, hv, fun h0 => ?_, by simp; omega, hl, hm, fun z hz => hwf z (List.mem_of_mem_take hz)⟩
    obtain ⟨b, off, spot⟩ := x
    have h0' : 0 < l := by simp at h0; omega
    have hc0 := hcell 0 (by omega)
    have hspot : spot = none := by simpa [Addr.add] using World.cell?_spot hc0
    subst hspot
    refine ⟨b, off, rfl, by simp, fun j z hj => ?_⟩
    have hjl : j < l := by have := (List.getElem?_eq_some_iff.1 hj).1; simp at this; omega
    rw [List.getElem?_take_of_lt hjl] at hj
    have hc2 := hcell j (by omega)
    rw [add_none] at hc2
    rw [hc2]
    simp [List.getD, hj]
theorem list_of {α : Type} {Q : Nat → α → Prop} : ∀ n : Nat, (∀ i, i < n → ∃ x, Q i x) → ∃ l : List α, l.length = n ∧ ∀ i x, l[i]? = some x → Q i x
  | 0, _ => ⟨[], rfl, by simp⟩
  | n + 1, h => by
    obtain ⟨l, hl, hq⟩ := list_of n (fun i hi => h i (by omega))
    obtain ⟨x, hx⟩ := h n (by omega)
    refine ⟨l ++ [x], by simp [hl], fun i y hy => ?_⟩
    by_cases hi : i < l.length
    · rw [List.getElem?_append_left hi] at hy; exact hq i y hy
    · have hi2 : i < n + 1 := by have := (List.getElem?_eq_some_iff.1 hy).1; simp at this; omega
      obtain rfl : i = n := by omega
      rw [List.getElem?_append_right (by omega)] at hy
      simp [hl] at hy
      subst hy; exact hx
theorem row_words {k : IntKind} {A : Option Addr} {n c : Nat} {zs : List Int} (h : IsRow k w A n c zs) : Sees (Value.int k) w [] A (zs.take n) ∧ (zs.take n).length = n ∧ n ≤ c ∧ c ≤ maxLen ∧ ∀ z ∈ zs.take n, (Lit.int k z).wf = true := by
  rcases h with ⟨rfl, rfl, rfl, rfl⟩ | ⟨x, rfl, hl, hm, hz, hcell, hwf⟩
  · exact ⟨Sees.nil, rfl, by omega, by decide, by simp⟩
  · refine ⟨fun h0 => ?_, by simp; omega, hl, hm, fun z hz => hwf z (List.mem_of_mem_take hz)⟩
    obtain ⟨b, off, spot⟩ := x
    have h0' : 0 < n := by simp at h0; omega
    have hc0 := hcell 0 (by omega)
    have hspot : spot = none := by simpa [Addr.add] using World.cell?_spot hc0
    subst hspot
    refine ⟨b, off, rfl, by simp, fun j z hj => ?_⟩
    have hjl : j < n := by have := (List.getElem?_eq_some_iff.1 hj).1; simp at this; omega
    rw [List.getElem?_take_of_lt hjl] at hj
    have hc2 := hcell j (by omega)
    rw [add_none] at hc2
    rw [hc2]
    simp [List.getD, hj]
set_option maxRecDepth 100000 in
theorem one_of {t : TypeId} {fs : Array Field} (h : Try.prog.underlying t = some (.struct fs)) (h2 : (match Try.prog.underlying t with | some (.struct fs) => oneCellFields Try.prog fs | _ => false) = true) : oneCellFields Try.prog fs = true := by
  rw [h] at h2; exact h2
set_option maxRecDepth 100000 in
theorem open_op {fuel : Nat} {cs : List Value} {y : DataW H × List MemPlace} (h : DataW.trod enc Try.prog w base spare held fuel 51 cs = some y) : ∃ op : OpS, cs = op.cells ∧ OpOk w op := by
  obtain ⟨xs, n, _, _, hl, hlen, hg⟩ := DataW.trod_struct Try.underlying51 h
  have hone := one_of Try.underlying51 (by kernel_rfl)
  have hcl : cs.length = 5 := hl.trans (by kernel_rfl)
  replace hlen : xs.length = 5 := hlen
  match cs, hcl, xs, hlen with
  | [c0, c1, c2, c3, c4], _, [y0, y1, y2, y3, y4], _ =>
    obtain ⟨o0, k0⟩ := hone_of hone 0 _ rfl
    obtain ⟨o1, k1⟩ := hone_of hone 1 _ rfl
    obtain ⟨o2, k2⟩ := hone_of hone 2 _ rfl
    obtain ⟨o3, k3⟩ := hone_of hone 3 _ rfl
    obtain ⟨o4, k4⟩ := hone_of hone 4 _ rfl
    have g0 := hg 0 _ rfl
    have g1 := hg 1 _ rfl
    have g2 := hg 2 _ rfl
    have g3 := hg 3 _ rfl
    have g4 := hg 4 _ rfl
    rw [o0, k0] at g0
    rw [o1, k1] at g1
    rw [o2, k2] at g2
    rw [o3, k3] at g3
    rw [o4, k4] at g4
    replace g0 := g0.trans (show _ = some y0 from rfl)
    replace g1 := g1.trans (show _ = some y1 from rfl)
    replace g2 := g2.trans (show _ = some y2 from rfl)
    replace g3 := g3.trans (show _ = some y3 from rfl)
    replace g4 := g4.trans (show _ = some y4 from rfl)
    obtain ⟨z0, e0, _, w0⟩ := DataW.trod_int Try.underlying3 g0
    obtain ⟨z1, e1, _, w1⟩ := DataW.trod_int Try.underlying3 g1
    obtain ⟨z2, e2, _, w2⟩ := DataW.trod_int Try.underlying3 g2
    obtain ⟨z3, e3, _, w3⟩ := DataW.trod_int Try.underlying22 g3
    obtain ⟨A, m, c, bs, e4, hs, hb, hmc, hcm, hw⟩ := sees_row Try.underlying49 Try.underlying5 (by kernel_rfl) (show DataW.trod enc Try.prog w base spare held n 49 [c4] = some y4 from g4)
    obtain rfl : c0 = .int .i64 z0 := by simpa using e0
    obtain rfl : c1 = .int .i64 z1 := by simpa using e1
    obtain rfl : c2 = .int .i64 z2 := by simpa using e2
    obtain rfl : c3 = .int .u64 z3 := by simpa using e3
    subst e4
    refine ⟨⟨z0, z1, z2, z3, A, m, c, bs⟩, rfl, hs, hb, fun z hz => ?_, ?_, ?_⟩
    · have := hw z hz
      simp [Lit.wf, IntKind.min, IntKind.max, IntKind.signed, IntKind.bits] at this
      omega
    · simp [Lit.wf, IntKind.min, IntKind.max, IntKind.signed, IntKind.bits] at w2
      refine ⟨?_, ?_⟩
      · show _ ≤ z2; omega
      · show z2 ≤ _; omega
    · simp only [maxLen] at hcm
      show m ≤ _
      omega
set_option maxRecDepth 100000 in
theorem open_script (W : World) {r : Reach} (b0 : Nat) (v : Value) (d : DataW H) (p : List MemPlace)
    (hv : Value.okWide Try.prog W r b0 46 v) (h : DataW.Trod enc Try.prog W base spare held 46 v d p) :
    ∃ x : Option Addr × Nat × Nat × List OpS, v = .slice x.1 x.2.1 x.2.2.1 ∧ (Script W x.1 x.2.2.2 ∧ x.2.2.2.length = x.2.1 ∧ x.2.1 ≤ 9223372036854775807) := by
  obtain ⟨a, len, cap, rfl⟩ := okWide_slice Try.underlying46 hv
  obtain ⟨fuel, hf⟩ := h
  have c5 : Try.prog.cellsOf 51 = 5 := by kernel_rfl
  rcases open_slice Try.underlying46 hf with ⟨hcs, _⟩ | ⟨x, l, c, m, n, D, Pl, hcs, _, hl, hm, hmm, _, hx⟩
  · simp [Value.cells] at hcs
    obtain ⟨rfl, rfl, rfl⟩ := hcs
    exact ⟨(none, 0, 0, []), rfl, ⟨fun h => absurd rfl h, by simp⟩, rfl, by show (0 : Nat) ≤ _; omega⟩
  · simp [Value.cells] at hcs
    obtain ⟨rfl, rfl, rfl⟩ := hcs
    rw [c5] at hx
    have hlm : len ≤ m := by rw [hmm]; split <;> omega
    obtain ⟨ops, hol, hq⟩ := list_of (Q := fun i (op : OpS) => OpOk W op ∧ ∀ j u, op.cells[j]? = some u → W.cell? (x.add (i * 5 + j)) = some u) len (fun i hi => by
      obtain ⟨cs', hc, ht⟩ := hx i (by omega)
      obtain ⟨op, rfl, hok⟩ := open_op ht
      obtain ⟨_, hcl, hat⟩ := World.cells?_some hc
      refine ⟨op, hok, fun j u hj => ?_⟩
      have hj5 : j < 5 := by have := (List.getElem?_eq_some_iff.1 hj).1; rw [hcl] at this; exact this
      rw [← Go.Deep.add_add, hat j hj5, hj])
    refine ⟨(some x, len, cap, ops), rfl, ⟨fun h0 => ?_, fun op hop => ?_⟩, hol, by simp only [maxLen] at hm; show len ≤ _; omega⟩
    · have h00 : ops.length ≠ 0 := h0
      obtain ⟨op0, hop0⟩ : ∃ op, ops[0]? = some op := ⟨_, List.getElem?_eq_getElem (by omega)⟩
      obtain ⟨b, off, spot⟩ := x
      have hc0 := (hq 0 op0 hop0).2 0 _ rfl
      have hspot : spot = none := by simpa [Addr.add] using World.cell?_spot hc0
      subst hspot
      refine ⟨b, off, rfl, fun i op hi j u hu => ?_⟩
      have := (hq i op hi).2 j u hu
      rw [add_none] at this
      rw [Nat.add_assoc]; exact this
    · obtain ⟨i, hi, rfl⟩ := List.mem_iff_getElem.1 hop
      exact (hq i _ (List.getElem?_eq_getElem hi)).1
end
open Go.RowKit
theorem OpOk.later {w W : World} {o : OpS} (h : OpOk w o) (hO : Only [] w W) : OpOk W o := ⟨h.see.later hO (by simp), h.len, h.bd, h.n1, h.ncb⟩
theorem Script.later {w W : World} {A : Option Addr} {ops : List OpS} (h : Script w A ops) (hO : Only [] w W) : Script W A ops :=
  ⟨fun h0 => by
    obtain ⟨b, o, e, hr⟩ := h.1 h0
    exact ⟨b, o, e, fun i op hi => (hr i op hi).later hO (by simp)⟩, fun op hop => (h.2 op hop).later hO⟩
theorem walk_NvmPlays (A : Option Addr) (n c : Nat) (zs : List Int) (x : Option Addr × Nat × Nat × List OpS) (w : World) (hr : IsRow .u64 w A n c zs) (hx : Script w x.1 x.2.2.2 ∧ x.2.2.2.length = x.2.1 ∧ x.2.1 ≤ 9223372036854775807) :
    Calls Try.prog 6 [.slice A n c, .slice x.1 x.2.1 x.2.2.1].toArray w fun e w' => e = .returned (.bool true) ∧ Below w.heap.size w w' := by
  obtain ⟨B, q, cq, ops⟩ := x
  obtain ⟨hs, hl, hq⟩ := hx
  obtain ⟨hz, lz, hnc, hcm, _⟩ := row_words hr
  have hn : n ≤ 9223372036854775807 := by simp only [maxLen] at hcm; omega
  have H := Heap.nil w
  by_cases hf : fewB n q ops = true
  · have hf2 : n ≤ 200 ∧ q ≤ 60 ∧ ∀ op ∈ ops, op.nc ≤ 100 := of_decide_eq_true hf
    have hF := fun W hs => lFew A n c B q cq ops W hs hl hn hq
    rw [hf] at hF
    refine k_in (N := 22) Try.func6 rfl rfl rfl ?_
    refine k_seq ?_
    refine k_rg ?_
    refine s_run rfl rfl (r_as (v := .bool _) rfl) ?_
    refine k_nil ?_
    refine c_norm ?_
    refine k_seq ?_
    refine k_seq ?_
    refine k_rg ?_
    refine s_call rfl (lAwake _) (ca20 rfl) ?_
    rintro e W1 ⟨rfl, H'⟩
    refine ⟨_, rfl, ?_⟩
    have H := H.same H'; clear H'
    refine s_run rfl rfl (r_notT rfl) ?_
    refine k_nil ?_
    refine c_norm ?_
    refine k_f rfl ?_
    refine k_skip ?_
    refine c_norm ?_
    refine k_seq ?_
    refine k_seq ?_
    refine k_rg ?_
    refine s_run rfl rfl (r_mv (v := .slice _ _ _) rfl) ?_
    refine s_run rfl rfl (r_mv (v := .slice _ _ _) rfl) ?_
    refine s_call rfl (hF _ (hs.later H.only)) (ca31 rfl) ?_
    rintro e W1 ⟨rfl, H'⟩
    refine ⟨_, rfl, ?_⟩
    have H := H.same H'; clear H'
    refine s_run rfl rfl (r_notT rfl) ?_
    refine k_nil ?_
    refine c_norm ?_
    refine k_f rfl ?_
    refine k_skip ?_
    refine c_norm ?_
    refine k_seq ?_
    refine k_rg ?_
    refine s_run rfl rfl (r_mv (v := .slice _ _ _) rfl) ?_
    refine s_run rfl rfl (r_mv (v := .slice _ _ _) rfl) ?_
    refine s_call rfl (lPlayed A n c _ B q cq ops _ (hz.later H.only (by simp)) lz (by omega) (hs.later H.only) hl (by omega) hf2.2.2) (ca36 rfl) ?_
    rintro e W1 ⟨g, s, rfl, H', _, _⟩
    refine ⟨_, rfl, ?_⟩
    have H := H.more (A := [grp _]) (grp_heap H'); clear H'; simp only [List.cons_append, List.nil_append] at H; simp only [refE]
    refine s_run rfl rfl (r_mv (v := .tuple _) rfl) ?_
    refine s_run rfl rfl (r_ext (v := .pointer _) rfl rfl) ?_
    refine s_run rfl rfl (r_ext (v := .agg _) rfl rfl) ?_
    refine s_run rfl rfl (r_ext (v := .bool _) rfl rfl) ?_
    refine s_al H rfl inf55 ?_
    intro p6 _ H'; clear H; have H := H'; clear H'
    refine s_run rfl rfl (r_as (v := .pointer _) rfl) ?_
    refine s_sw H 0 rfl rfl rfl rfl rfl rfl rfl sz55 ?_
    intro _ H'; simp only [List.set_cons_zero, List.set_cons_succ, List.take_succ_cons, List.take_zero, List.drop_succ_cons, List.drop_zero, List.cons_append, List.nil_append, List.append_nil, List.length_cons, List.length_nil, Nat.reduceAdd] at H'; clear H; have H := H'; clear H'
    refine s_run rfl rfl (r_as (v := .bool _) rfl) ?_
    refine k_nil ?_
    refine c_norm ?_
    refine k_seq ?_
    refine k_rg ?_
    refine s_run rfl rfl (r_mv (v := .bool _) rfl) ?_
    refine s_run rfl rfl (r_as (v := .bool _) rfl) ?_
    refine k_nil ?_
    refine c_norm ?_
    refine k_ret ?_
    refine fin1r (v := .bool _) rfl rfl ?_
    exact ⟨rfl, H.only.below⟩
  · have hf3 : fewB n q ops = false := by simpa using hf
    have hF := fun W hs => lFew A n c B q cq ops W hs hl hn hq
    rw [hf3] at hF
    refine k_in (N := 22) Try.func6 rfl rfl rfl ?_
    refine k_seq ?_
    refine k_rg ?_
    refine s_run rfl rfl (r_as (v := .bool _) rfl) ?_
    refine k_nil ?_
    refine c_norm ?_
    refine k_seq ?_
    refine k_seq ?_
    refine k_rg ?_
    refine s_call rfl (lAwake _) (ca20 rfl) ?_
    rintro e W1 ⟨rfl, H'⟩
    refine ⟨_, rfl, ?_⟩
    have H := H.same H'; clear H'
    refine s_run rfl rfl (r_notT rfl) ?_
    refine k_nil ?_
    refine c_norm ?_
    refine k_f rfl ?_
    refine k_skip ?_
    refine c_norm ?_
    refine k_seq ?_
    refine k_seq ?_
    refine k_rg ?_
    refine s_run rfl rfl (r_mv (v := .slice _ _ _) rfl) ?_
    refine s_run rfl rfl (r_mv (v := .slice _ _ _) rfl) ?_
    refine s_call rfl (hF _ (hs.later H.only)) (ca31 rfl) ?_
    rintro e W1 ⟨rfl, H'⟩
    refine ⟨_, rfl, ?_⟩
    have H := H.same H'; clear H'
    refine s_run rfl rfl (r_notF rfl) ?_
    refine k_nil ?_
    refine c_norm ?_
    refine k_t rfl ?_
    refine k_seq ?_
    refine k_rg ?_
    refine s_run rfl rfl (r_as (v := .bool _) rfl) ?_
    refine k_nil ?_
    refine c_norm ?_
    refine k_ret ?_
    refine c_ret ?_
    refine fin1r (v := .bool _) rfl rfl ?_
    exact ⟨rfl, H.only.below⟩
end Go.Proofs.Ytmekhdclnhhhbaa
