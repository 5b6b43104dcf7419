/- Dirty, Fence, Persist. -/
import Derived.Test.YtmekhdclnhhhbaaNvm5
namespace Go.Proofs.Ytmekhdclnhhhbaa
open Go.RowKit
set_option linter.unusedSimpArgs false
set_option linter.unusedVariables false
theorem dirtyTo_len (l : List Bool) : ∀ k, (Nv.dirtyTo l k).length ≤ k
  | 0 => by simp [Nv.dirtyTo]
  | k + 1 => by
    have := dirtyTo_len l k
    unfold Nv.dirtyTo; split
    · simp; omega
    · omega
theorem nDirty (g : Geo) (d : Nv.D) (m : Nat) (w : World) (hE : Ents (devL g d) w) (ho : Nv.Ok d m) (hm : m ≤ 100000) :
    Calls Try.prog 27 [ptr g.p].toArray w fun e w' => ∃ A c, e = .returned (.slice A (Nv.dirtyTo d.dirty m).length c) ∧ Heap w [] [ownN 1 (.slice A (Nv.dirtyTo d.dirty m).length c) (Nv.dirtyTo d.dirty m).length ((Nv.dirtyTo d.dirty m).map (Value.int .i64)) 3] w' := by
  have HR := Heap.start hE
  have H := Heap.nil w
  have hd := ho.hd
  generalize hF : ids (devL g d) = F at HR
  unfold devL devCells at HR
  rw [hd] at HR
  refine k_in (N := 23) Try.func27 rfl rfl rfl ?_
  refine k_seq ?_
  refine k_rg ?_
  refine s_run rfl rfl (r_as (v := .slice _ _ _) rfl) ?_
  refine k_nil ?_
  refine c_norm ?_
  refine k_seq ?_
  refine k_rg ?_
  refine s_run rfl rfl (r_as (v := .slice _ _ _) rfl) ?_
  refine k_nil ?_
  refine c_norm ?_
  refine k_seq ?_
  refine k_seq ?_
  refine k_rg ?_
  refine s_run rfl rfl (r_mv (v := .pointer _) rfl) ?_
  refine s_run rfl rfl (r_nc rfl) ?_
  refine s_run rfl rfl (r_fa0 rfl fo114_3) ?_
  refine s_run rfl rfl (r_lo (HR.same H.only) 0 rfl rfl rfl ag53) ?_
  refine s_run rfl rfl (r_len rfl Try.underlying53) ?_
  refine s_run rfl rfl (r_mv (v := .int _ _) rfl) ?_
  refine k_nil ?_
  refine c_norm ?_
  refine k_b ?_
  refine k_loop (fun q f W => ∃ (k : Nat) (A : Option Addr) (c : Nat), k ≤ m ∧ q = m - k ∧ f 3 = .slice A (Nv.dirtyTo d.dirty k).length c ∧ f 9 = .slice (some ⟨g.bd, 0, none⟩) m g.cd ∧ f 10 = .int .i64 m ∧ f 11 = .int .i64 k ∧ Heap w [] [ownN 1 (.slice A (Nv.dirtyTo d.dirty k).length c) (Nv.dirtyTo d.dirty k).length ((Nv.dirtyTo d.dirty k).map (Value.int .i64)) 3] W) m ⟨0, none, 0, by omega, rfl, rfl, rfl, rfl, rfl, H.own_nil 1 3⟩ ?_
  clear H
  rintro q f W ⟨k, A, c, hk, rfl, h3, h9, h10, h11, H⟩
  obtain ⟨f, rfl⟩ := live4 h3 h9 h10 h11
  clear h3 h9 h10 h11
  have hlen := dirtyTo_len d.dirty k
  by_cases hlt : k < m
  · by_cases hv : d.dirty.getD k false = true
    · have e : Nv.dirtyTo d.dirty (k + 1) = Nv.dirtyTo d.dirty k ++ [(k : Int)] := by rw [Nv.dirtyTo, if_pos hv]
      have el : (Nv.dirtyTo d.dirty (k + 1)).length = (Nv.dirtyTo d.dirty k).length + 1 := by rw [e]; simp
      have hv' : d.dirty[k]? = some true := by rw [getE (by omega)]; exact congrArg some hv
      refine k_seq ?_
      refine k_rg ?_
      refine s_run rfl rfl (r_lssT rfl rfl (by omega)) ?_
      refine k_nil ?_
      refine c_norm ?_
      refine k_seq ?_
      refine k_t rfl ?_
      refine k_skip ?_
      refine c_norm ?_
      refine k_seq ?_
      refine k_b ?_
      refine k_seq ?_
      refine k_rg ?_
      refine s_run rfl rfl (r_mv (v := .int _ _) rfl) ?_
      refine s_run rfl rfl (r_ix1 rfl rfl rfl (by omega) Try.underlying53 sz4) ?_
      refine s_run rfl rfl (r_lv (HR.same H.only) 4 rfl rfl (by assumption) ag4) ?_
      refine s_run rfl rfl (r_as (v := .int _ _) rfl) ?_
      refine s_run rfl rfl (r_as (v := .bool _) rfl) ?_
      refine k_nil ?_
      refine c_norm ?_
      refine k_seq ?_
      refine k_rg ?_
      refine s_run rfl rfl (r_mv (v := .bool _) rfl) ?_
      refine k_nil ?_
      refine c_norm ?_
      refine k_t rfl ?_
      refine k_rg ?_
      refine s_run rfl rfl (r_mv (v := .slice _ _ _) rfl) ?_
      refine s_run rfl rfl (r_mv (v := .int _ _) rfl) ?_
      refine s_app1 (enc := (Value.int .i64)) H 0 rfl rfl rfl rfl rfl rfl rfl (by omega) Try.underlying42 inf3 rfl ?_
      intro _ An cn _ H'; simp only [List.set_cons_zero, List.set_cons_succ, List.take_succ_cons, List.take_zero, List.drop_succ_cons, List.drop_zero, List.cons_append, List.nil_append, List.append_nil, List.length_cons, List.length_nil, Nat.reduceAdd] at H'; clear H; have H := H'; clear H'
      refine s_run rfl rfl (r_as (v := .slice _ _ _) rfl) ?_
      refine k_nil ?_
      refine b_norm ?_
      refine c_norm ?_
      refine k_rg ?_
      refine s_run rfl rfl (r_add rfl rfl (wI (by omega))) ?_
      refine s_run rfl rfl (r_mv (v := .int _ _) rfl) ?_
      refine k_nil ?_
      refine c_round ?_
      rw [← e, ← el] at H
      refine ⟨_, _, ?_, rfl, k + 1, _, _, by omega, rfl, ?_, rfl, rfl, rfl, H⟩
      · omega
      · rw [el]; rfl
    · have e : Nv.dirtyTo d.dirty (k + 1) = Nv.dirtyTo d.dirty k := by rw [Nv.dirtyTo, if_neg hv]
      have hv' : d.dirty[k]? = some false := by rw [getE (by omega)]; exact congrArg some (by simpa using hv)
      refine k_seq ?_
      refine k_rg ?_
      refine s_run rfl rfl (r_lssT rfl rfl (by omega)) ?_
      refine k_nil ?_
      refine c_norm ?_
      refine k_seq ?_
      refine k_t rfl ?_
      refine k_skip ?_
      refine c_norm ?_
      refine k_seq ?_
      refine k_b ?_
      refine k_seq ?_
      refine k_rg ?_
      refine s_run rfl rfl (r_mv (v := .int _ _) rfl) ?_
      refine s_run rfl rfl (r_ix1 rfl rfl rfl (by omega) Try.underlying53 sz4) ?_
      refine s_run rfl rfl (r_lv (HR.same H.only) 4 rfl rfl (by assumption) ag4) ?_
      refine s_run rfl rfl (r_as (v := .int _ _) rfl) ?_
      refine s_run rfl rfl (r_as (v := .bool _) rfl) ?_
      refine k_nil ?_
      refine c_norm ?_
      refine k_seq ?_
      refine k_rg ?_
      refine s_run rfl rfl (r_mv (v := .bool _) rfl) ?_
      refine k_nil ?_
      refine c_norm ?_
      refine k_f rfl ?_
      refine k_skip ?_
      refine b_norm ?_
      refine c_norm ?_
      refine k_rg ?_
      refine s_run rfl rfl (r_add rfl rfl (wI (by omega))) ?_
      refine s_run rfl rfl (r_mv (v := .int _ _) rfl) ?_
      refine k_nil ?_
      refine c_round ?_
      rw [← e] at H
      refine ⟨_, _, ?_, rfl, k + 1, A, c, by omega, rfl, ?_, rfl, rfl, rfl, H⟩
      · omega
      · rw [e]; rfl
  · obtain rfl : k = m := by omega
    refine k_seq ?_
    refine k_rg ?_
    refine s_run rfl rfl (r_lssF rfl rfl (by omega)) ?_
    refine k_nil ?_
    refine c_norm ?_
    refine k_seq ?_
    refine k_f rfl ?_
    refine k_exit ?_
    refine c_exit ?_
    refine c_exit ?_
    refine b_hit ?_
    refine c_norm ?_
    refine k_seq ?_
    refine k_rg ?_
    refine s_run rfl rfl (r_mv (v := .slice _ _ _) rfl) ?_
    refine s_run rfl rfl (r_as (v := .slice _ _ _) rfl) ?_
    refine k_nil ?_
    refine c_norm ?_
    refine k_ret ?_
    refine fin1r (v := .slice _ _ _) rfl rfl ?_
    exact ⟨A, c, rfl, H⟩
theorem nFence (g : Geo) (d : Nv.D) (m : Nat) (w : World) (hE : Ents (devL g d) w) (ho : Nv.Ok d m) (hg : GOk g m) (hm : m ≤ 100000) :
    Calls Try.prog 35 [ptr g.p].toArray w fun e w' => e = .returned (.int .i64 (Nv.fence d m).2) ∧ Heap w (ids (devL g d)) (devL g (Nv.fence d m).1) w' := by
  have H0 := Heap.start hE
  by_cases hs : Nv.stops d = true
  · have er : Nv.fence d m = (Nv.killed d, 3) := by rw [Nv.fence, if_pos hs]
    rw [er]
    generalize hF : ids (devL g d) = F at H0 ⊢
    have H := H0
    refine k_in (N := 63) Try.func35 rfl rfl rfl ?_
    refine k_seq ?_
    refine k_rg ?_
    refine s_run rfl rfl (r_as (v := .int _ _) rfl) ?_
    refine k_nil ?_
    refine c_norm ?_
    refine k_seq ?_
    refine k_seq ?_
    refine k_rg ?_
    refine s_run rfl rfl (r_mv (v := .pointer _) rfl) ?_
    refine s_call rfl (nStep_no g d _ H0.ents hs) (ca70 rfl) ?_
    rintro e W1 ⟨rfl, H'⟩
    refine ⟨_, rfl, ?_⟩
    have H := H0.whole H'
    refine s_run rfl rfl (r_notF rfl) ?_
    refine k_nil ?_
    refine c_norm ?_
    refine k_t rfl ?_
    refine k_seq ?_
    refine k_rg ?_
    refine s_run rfl rfl (r_as (v := .int _ _) rfl) ?_
    refine k_nil ?_
    refine c_norm ?_
    refine k_ret ?_
    refine c_ret ?_
    refine fin1r (v := .int _ _) rfl rfl ?_
    exact ⟨rfl, H⟩
  · have hs : Nv.stops d = false := by simpa using hs
    have er : Nv.fence d m = (Nv.fenceTo (Nv.stepped d) m, 0) := by rw [Nv.fence, if_neg (by simp [hs])]
    rw [er]
    have ho1 := ho.stepped
    generalize hF : ids (devL g d) = F at H0 ⊢
    have H := H0
    have hp1 := ho1.hp
    refine k_in (N := 63) Try.func35 rfl rfl rfl ?_
    refine k_seq ?_
    refine k_rg ?_
    refine s_run rfl rfl (r_as (v := .int _ _) rfl) ?_
    refine k_nil ?_
    refine c_norm ?_
    refine k_seq ?_
    refine k_seq ?_
    refine k_rg ?_
    refine s_run rfl rfl (r_mv (v := .pointer _) rfl) ?_
    refine s_call rfl (nStep_yes g d _ H0.ents hs) (ca70 rfl) ?_
    rintro e W1 ⟨rfl, H'⟩
    refine ⟨_, rfl, ?_⟩
    clear H; have H := H0.whole H'; clear H'; have HD := H; unfold devL devCells at H
    refine s_run rfl rfl (r_notT rfl) ?_
    refine k_nil ?_
    refine c_norm ?_
    refine k_f rfl ?_
    refine k_skip ?_
    refine c_norm ?_
    refine k_seq ?_
    refine k_seq ?_
    refine k_rg ?_
    refine s_run rfl rfl (r_mv (v := .pointer _) rfl) ?_
    refine s_run rfl rfl (r_nc rfl) ?_
    refine s_run rfl rfl (r_fa0 rfl fo114_4) ?_
    refine s_run rfl rfl (r_lo H 0 rfl rfl rfl ag53) ?_
    refine s_run rfl rfl (r_len rfl Try.underlying53) ?_
    refine s_run rfl rfl (r_mv (v := .int _ _) rfl) ?_
    refine k_nil ?_
    refine c_norm ?_
    refine k_b ?_
    clear H
    refine k_loop (fun q f W => ∃ (k : Nat), k ≤ m ∧ q = m - k ∧ f 0 = ptr g.p ∧ f 11 = .slice (some ⟨g.bp, 0, none⟩) m g.cp ∧ f 12 = .int .i64 m ∧ f 13 = .int .i64 k ∧ Heap w F (devL g (Nv.fenceTo (Nv.stepped d) k)) W) m ⟨0, by omega, rfl, rfl, by rw [← hp1]; rfl, by rw [← hp1]; rfl, rfl, HD⟩ ?_
    clear HD
    rintro q f W ⟨k, hk, rfl, h0, h11, h12, h13, H⟩
    obtain ⟨f, rfl⟩ := live4 h0 h11 h12 h13
    clear h0 h11 h12 h13
    have hok := ho1.fenceTo k hk
    by_cases hlt : k < m
    · have e : Nv.fenceTo (Nv.stepped d) (k + 1) = Nv.fenceLine (Nv.fenceTo (Nv.stepped d) k) k := rfl
      generalize Nv.fenceTo (Nv.stepped d) k = x at hok H e
      have hl := hok.hl
      have hc := hok.hc
      have hf := hok.hf
      have hd := hok.hd
      have hp := hok.hp
      have hgl := hg.l
      have hgc := hg.c
      have hgf := hg.f
      by_cases hv : x.pend.getD k false = true
      · have hv' : x.pend[k]? = some true := by rw [getE (by omega)]; exact congrArg some hv
        have er : Nv.fenceLine x k = { x with last := Nv.setPart x.last k (Nv.part x.fl k), pend := x.pend.set k false, dirty := x.dirty.set k (!Nv.same (Nv.part x.fl k) (Nv.part x.cache k)) } := by rw [Nv.fenceLine, if_pos hv]
        have es : Nv.setPart x.last k (Nv.part x.fl k) = x.last.take (8 * k) ++ ((x.fl.drop (8 * k)).take 8 ++ x.last.drop (8 * k + 8)) := by simp [Nv.setPart, Nv.part]
        have hl2 : (Nv.setPart x.last k (Nv.part x.fl k)).length = x.last.length := Nv.length_setPart (by omega) (Nv.length_part (by omega))
        have ep : ((Nv.setPart x.last k (Nv.part x.fl k)).drop (8 * k)).take 8 = Nv.part x.fl k := by
          unfold Nv.setPart
          rw [List.append_assoc, List.drop_append, List.drop_of_length_le (by simp; exact Nat.min_le_left _ _), List.nil_append, show 8 * k - (x.last.take (8 * k)).length = 0 from by simp; omega, List.drop_zero, List.take_append, List.take_of_length_le (by rw [Nv.length_part (by omega)]; omega), Nv.length_part (by omega), Nat.sub_self, List.take_zero, List.append_nil]
        unfold devL devCells at H
        refine k_seq ?_
        refine k_rg ?_
        refine s_run rfl rfl (r_lssT rfl rfl (by omega)) ?_
        refine k_nil ?_
        refine c_norm ?_
        refine k_seq ?_
        refine k_t rfl ?_
        refine k_skip ?_
        refine c_norm ?_
        refine k_seq ?_
        refine k_b ?_
        refine k_seq ?_
        refine k_rg ?_
        refine s_run rfl rfl (r_mv (v := .int _ _) rfl) ?_
        refine s_run rfl rfl (r_ix1 rfl rfl rfl (by omega) Try.underlying53 sz4) ?_
        refine s_run rfl rfl (r_lv H 5 rfl rfl (by assumption) ag4) ?_
        refine s_run rfl rfl (r_as (v := .int _ _) rfl) ?_
        refine s_run rfl rfl (r_as (v := .bool _) rfl) ?_
        refine k_nil ?_
        refine c_norm ?_
        refine k_seq ?_
        refine k_rg ?_
        refine s_run rfl rfl (r_mv (v := .bool _) rfl) ?_
        refine k_nil ?_
        refine c_norm ?_
        refine k_t rfl ?_
        refine k_seq ?_
        refine k_qt 14 mixed (by kernel_rfl) H rfl rfl ?_
        refine q_run rfl rfl (fun _ H => r_mv (v := .pointer _) rfl) ?_
        refine q_run rfl rfl (fun _ H => r_mv (v := .pointer _) rfl) ?_
        refine q_run rfl rfl (fun _ H => r_nc rfl) ?_
        refine q_run rfl rfl (fun _ H => r_fa0 rfl fo114_0) ?_
        refine q_run rfl rfl (fun _ H => r_lo H 0 rfl rfl rfl ag25) ?_
        refine q_run rfl rfl (fun _ H => r_mv (v := .int _ _) rfl) ?_
        refine q_call rfl rfl (fun _ H => nPart g.bl g.cl k _ _ _ (by omega)) (ca77 rfl) ?_
        refine q_run rfl rfl (fun _ H => r_mv (v := .pointer _) rfl) ?_
        refine q_run rfl rfl (fun _ H => r_mv (v := .pointer _) rfl) ?_
        refine q_run rfl rfl (fun _ H => r_nc rfl) ?_
        refine q_run rfl rfl (fun _ H => r_fa0 rfl fo114_2) ?_
        refine q_run rfl rfl (fun _ H => r_lo H 0 rfl rfl rfl ag25) ?_
        refine q_run rfl rfl (fun _ H => r_mv (v := .int _ _) rfl) ?_
        refine q_call rfl rfl (fun _ H => nPart g.bf g.cf k _ _ _ (by omega)) (ca77 rfl) ?_
        refine q_nil ?_
        intro _ H'; clear H; have H := H'; clear H'
        refine s_cp (enc := (Value.int .u64)) H 1 3 rfl rfl rfl rfl rfl (fun _ => rfl) (by omega) Try.underlying25 inf22 ?_
        intro _ H'; simp only [List.set_cons_zero, List.set_cons_succ, List.take_succ_cons, List.take_zero, List.drop_succ_cons, List.drop_zero, List.cons_append, List.nil_append, List.append_nil, List.length_cons, List.length_nil, Nat.reduceAdd] at H'; clear H; have H := H'; clear H'
        refine k_nil ?_
        refine c_norm ?_
        refine k_seq ?_
        refine k_rg ?_
        refine s_run rfl rfl (r_mv (v := .pointer _) rfl) ?_
        refine s_run rfl rfl (r_nc rfl) ?_
        refine s_run rfl rfl (r_fa0 rfl fo114_4) ?_
        refine s_run rfl rfl (r_lo H 0 rfl rfl rfl ag53) ?_
        refine s_run rfl rfl (r_mv (v := .int _ _) rfl) ?_
        refine s_run rfl rfl (r_ix1 rfl rfl rfl (by omega) Try.underlying53 sz4) ?_
        refine s_sv (u := .bool _) H 5 rfl rfl rfl rfl rfl (by omega) (fun _ => rfl) sz4 ?_
        intro _ H'; simp only [List.set_cons_zero, List.set_cons_succ, List.take_succ_cons, List.take_zero, List.drop_succ_cons, List.drop_zero, List.cons_append, List.nil_append, List.append_nil, List.length_cons, List.length_nil, Nat.reduceAdd] at H'; clear H; have H := H'; clear H'
        refine k_nil ?_
        refine c_norm ?_
        rw [← es] at H
        refine k_qt 21 mixed (by kernel_rfl) H rfl rfl ?_
        refine q_run rfl rfl (fun _ H => r_mv (v := .pointer _) rfl) ?_
        refine q_run rfl rfl (fun _ H => r_nc rfl) ?_
        refine q_run rfl rfl (fun _ H => r_fa0 rfl fo114_3) ?_
        refine q_run rfl rfl (fun _ H => r_lo H 0 rfl rfl rfl ag53) ?_
        refine q_run rfl rfl (fun _ H => r_mv (v := .int _ _) rfl) ?_
        refine q_run rfl rfl (fun _ H => r_mv (v := .pointer _) rfl) ?_
        refine q_run rfl rfl (fun _ H => r_mv (v := .pointer _) rfl) ?_
        refine q_run rfl rfl (fun _ H => r_nc rfl) ?_
        refine q_run rfl rfl (fun _ H => r_fa0 rfl fo114_0) ?_
        refine q_run rfl rfl (fun _ H => r_lo H 0 rfl rfl rfl ag25) ?_
        refine q_run rfl rfl (fun _ H => r_mv (v := .int _ _) rfl) ?_
        refine q_call rfl rfl (fun _ H => nPart g.bl g.cl k _ _ _ (by omega)) (ca77 rfl) ?_
        refine q_run rfl rfl (fun _ H => r_mv (v := .pointer _) rfl) ?_
        refine q_run rfl rfl (fun _ H => r_mv (v := .pointer _) rfl) ?_
        refine q_run rfl rfl (fun _ H => r_nc rfl) ?_
        refine q_run rfl rfl (fun _ H => r_fa0 rfl fo114_1) ?_
        refine q_run rfl rfl (fun _ H => r_lo H 0 rfl rfl rfl ag25) ?_
        refine q_run rfl rfl (fun _ H => r_mv (v := .int _ _) rfl) ?_
        refine q_call rfl rfl (fun _ H => nPart g.bc g.cc k _ _ _ (by omega)) (ca77 rfl) ?_
        refine q_call rfl rfl (fun _ H => nEqual _ _ _ _ _ _ 8 _ _ _ (by have := H.reads 1 rfl (8 * k) 8; rw [ep] at this; exact this) (H.reads 2 rfl (8 * k) 8) (Nv.length_part (by omega)) (Nv.length_part (by omega)) (by omega)) (ca78 rfl) ?_
        refine q_run rfl rfl (fun _ H => r_not rfl) ?_
        refine q_nil ?_
        intro _ H'; clear H; have H := H'; clear H'
        refine s_run rfl rfl (r_ix1 rfl rfl rfl (by omega) Try.underlying53 sz4) ?_
        refine s_sv (u := .bool _) H 4 rfl rfl rfl rfl rfl (by omega) (fun _ => rfl) sz4 ?_
        intro _ H'; simp only [List.set_cons_zero, List.set_cons_succ, List.take_succ_cons, List.take_zero, List.drop_succ_cons, List.drop_zero, List.cons_append, List.nil_append, List.append_nil, List.length_cons, List.length_nil, Nat.reduceAdd] at H'; clear H; have H := H'; clear H'
        refine k_nil ?_
        refine b_norm ?_
        refine c_norm ?_
        refine k_rg ?_
        refine s_run rfl rfl (r_add rfl rfl (wI (by omega))) ?_
        refine s_run rfl rfl (r_mv (v := .int _ _) rfl) ?_
        refine k_nil ?_
        refine c_round ?_
        refine ⟨_, _, ?_, rfl, k + 1, by omega, rfl, rfl, rfl, rfl, rfl, ?_⟩
        · omega
        · rw [e, er]
          unfold devL devCells
          simp only [hl2, List.length_set]
          simpa [Nv.part] using H
      · have hv' : x.pend[k]? = some false := by rw [getE (by omega)]; exact congrArg some (by simpa using hv)
        have er : Nv.fenceLine x k = x := by rw [Nv.fenceLine, if_neg hv]
        have H2 := H
        unfold devL devCells at H
        refine k_seq ?_
        refine k_rg ?_
        refine s_run rfl rfl (r_lssT rfl rfl (by omega)) ?_
        refine k_nil ?_
        refine c_norm ?_
        refine k_seq ?_
        refine k_t rfl ?_
        refine k_skip ?_
        refine c_norm ?_
        refine k_seq ?_
        refine k_b ?_
        refine k_seq ?_
        refine k_rg ?_
        refine s_run rfl rfl (r_mv (v := .int _ _) rfl) ?_
        refine s_run rfl rfl (r_ix1 rfl rfl rfl (by omega) Try.underlying53 sz4) ?_
        refine s_run rfl rfl (r_lv H 5 rfl rfl (by assumption) ag4) ?_
        refine s_run rfl rfl (r_as (v := .int _ _) rfl) ?_
        refine s_run rfl rfl (r_as (v := .bool _) rfl) ?_
        refine k_nil ?_
        refine c_norm ?_
        refine k_seq ?_
        refine k_rg ?_
        refine s_run rfl rfl (r_mv (v := .bool _) rfl) ?_
        refine k_nil ?_
        refine c_norm ?_
        refine k_f rfl ?_
        refine k_skip ?_
        refine b_norm ?_
        refine c_norm ?_
        refine k_rg ?_
        refine s_run rfl rfl (r_add rfl rfl (wI (by omega))) ?_
        refine s_run rfl rfl (r_mv (v := .int _ _) rfl) ?_
        refine k_nil ?_
        refine c_round ?_
        refine ⟨_, _, ?_, rfl, k + 1, by omega, rfl, rfl, rfl, rfl, rfl, ?_⟩
        · omega
        · rw [e, er]; exact H
    · obtain rfl : k = m := by omega
      refine k_seq ?_
      refine k_rg ?_
      refine s_run rfl rfl (r_lssF rfl rfl (by omega)) ?_
      refine k_nil ?_
      refine c_norm ?_
      refine k_seq ?_
      refine k_f rfl ?_
      refine k_exit ?_
      refine c_exit ?_
      refine c_exit ?_
      refine b_hit ?_
      refine c_norm ?_
      refine k_seq ?_
      refine k_rg ?_
      refine s_run rfl rfl (r_as (v := .int _ _) rfl) ?_
      refine k_nil ?_
      refine c_norm ?_
      refine k_ret ?_
      refine fin1r (v := .int _ _) rfl rfl ?_
      exact ⟨rfl, H⟩
theorem nPersist (g : Geo) (d : Nv.D) (m : Nat) (a n : Int) (w : World) (hE : Ents (devL g d) w) (ho : Nv.Ok d m) (hg : GOk g m) (hm : m ≤ 100000) :
    Calls Try.prog 38 [ptr g.p, .int .i64 a, .int .i64 n].toArray w fun e w' => e = .returned (.int .i64 (Nv.persist d m a n).2) ∧ Heap w (ids (devL g d)) (devL g (Nv.persist d m a n).1) w' := by
  have H := Heap.start hE
  generalize hF : ids (devL g d) = F at H ⊢
  have hc : (d.cache.length : Int) = 8 * (m : Int) := by have := ho.hc; omega
  have hL := nLen g d
  rw [hc] at hL
  unfold Nv.persist
  by_cases h1 : a < 0
  · rw [if_pos (.inl h1)]
    refine k_in (N := 50) Try.func38 rfl rfl rfl ?_
    refine k_seq ?_
    refine k_rg ?_
    refine s_run rfl rfl (r_as (v := .int _ _) rfl) ?_
    refine k_nil ?_
    refine c_norm ?_
    refine k_seq ?_
    refine k_seq ?_
    refine k_rg ?_
    refine s_run rfl rfl (r_mv (v := .int _ _) rfl) ?_
    refine s_run rfl rfl (r_lssT rfl rfl (by omega)) ?_
    refine s_run rfl rfl (r_mv (v := .bool _) rfl) ?_
    refine s_off rfl (g_off 11 (by kernel_rfl) rfl rfl) ?_
    refine s_off rfl (g_off 11 (by kernel_rfl) rfl rfl) ?_
    refine s_run rfl rfl (r_pkT (v := .bool _) rfl rfl) ?_
    refine s_run rfl rfl (r_mv (v := .bool _) rfl) ?_
    refine s_off rfl (g_off 15 (by kernel_rfl) rfl rfl) ?_
    refine s_off rfl (g_off 15 (by kernel_rfl) rfl rfl) ?_
    refine s_off rfl (g_off 15 (by kernel_rfl) rfl rfl) ?_
    refine s_off rfl (g_off 15 (by kernel_rfl) rfl rfl) ?_
    refine s_run rfl rfl (r_pkT (v := .bool _) rfl rfl) ?_
    refine s_run rfl rfl (r_mv (v := .bool _) rfl) ?_
    refine s_off rfl (g_off 21 (by kernel_rfl) rfl rfl) ?_
    refine s_off rfl (g_off 21 (by kernel_rfl) rfl rfl) ?_
    refine s_off rfl (g_off 21 (by kernel_rfl) rfl rfl) ?_
    refine s_off rfl (g_off 21 (by kernel_rfl) rfl rfl) ?_
    refine s_off rfl (g_off 21 (by kernel_rfl) rfl rfl) ?_
    refine s_off rfl (g_off 21 (by kernel_rfl) rfl rfl) ?_
    refine s_run rfl rfl (r_pkT (v := .bool _) rfl rfl) ?_
    refine k_nil ?_
    refine c_norm ?_
    refine k_t rfl ?_
    refine k_seq ?_
    refine k_rg ?_
    refine s_run rfl rfl (r_as (v := .int _ _) rfl) ?_
    refine k_nil ?_
    refine c_norm ?_
    refine k_ret ?_
    refine c_ret ?_
    refine fin1r (v := .int _ _) rfl rfl ?_
    exact ⟨rfl, H⟩
  by_cases h2 : n < 0
  · rw [if_pos (.inr (.inl h2))]
    refine k_in (N := 50) Try.func38 rfl rfl rfl ?_
    refine k_seq ?_
    refine k_rg ?_
    refine s_run rfl rfl (r_as (v := .int _ _) rfl) ?_
    refine k_nil ?_
    refine c_norm ?_
    refine k_seq ?_
    refine k_seq ?_
    refine k_rg ?_
    refine s_run rfl rfl (r_mv (v := .int _ _) rfl) ?_
    refine s_run rfl rfl (r_lssF rfl rfl (by omega)) ?_
    refine s_run rfl rfl (r_mv (v := .bool _) rfl) ?_
    refine s_run rfl (g_on 11 (by kernel_rfl) rfl) (r_mv (v := .int _ _) rfl) ?_
    refine s_run rfl (g_on 11 (by kernel_rfl) rfl) (r_lssT rfl rfl (by omega)) ?_
    refine s_run rfl rfl (r_pkF (v := .bool _) rfl rfl) ?_
    refine s_run rfl rfl (r_mv (v := .bool _) rfl) ?_
    refine s_off rfl (g_off 15 (by kernel_rfl) rfl rfl) ?_
    refine s_off rfl (g_off 15 (by kernel_rfl) rfl rfl) ?_
    refine s_off rfl (g_off 15 (by kernel_rfl) rfl rfl) ?_
    refine s_off rfl (g_off 15 (by kernel_rfl) rfl rfl) ?_
    refine s_run rfl rfl (r_pkT (v := .bool _) rfl rfl) ?_
    refine s_run rfl rfl (r_mv (v := .bool _) rfl) ?_
    refine s_off rfl (g_off 21 (by kernel_rfl) rfl rfl) ?_
    refine s_off rfl (g_off 21 (by kernel_rfl) rfl rfl) ?_
    refine s_off rfl (g_off 21 (by kernel_rfl) rfl rfl) ?_
    refine s_off rfl (g_off 21 (by kernel_rfl) rfl rfl) ?_
    refine s_off rfl (g_off 21 (by kernel_rfl) rfl rfl) ?_
    refine s_off rfl (g_off 21 (by kernel_rfl) rfl rfl) ?_
    refine s_run rfl rfl (r_pkT (v := .bool _) rfl rfl) ?_
    refine k_nil ?_
    refine c_norm ?_
    refine k_t rfl ?_
    refine k_seq ?_
    refine k_rg ?_
    refine s_run rfl rfl (r_as (v := .int _ _) rfl) ?_
    refine k_nil ?_
    refine c_norm ?_
    refine k_ret ?_
    refine c_ret ?_
    refine fin1r (v := .int _ _) rfl rfl ?_
    exact ⟨rfl, H⟩
  by_cases h3 : 8 * (m : Int) < a
  · rw [if_pos (.inr (.inr (.inl h3)))]
    refine k_in (N := 50) Try.func38 rfl rfl rfl ?_
    refine k_seq ?_
    refine k_rg ?_
    refine s_run rfl rfl (r_as (v := .int _ _) rfl) ?_
    refine k_nil ?_
    refine c_norm ?_
    refine k_seq ?_
    refine k_seq ?_
    refine k_rg ?_
    refine s_run rfl rfl (r_mv (v := .int _ _) rfl) ?_
    refine s_run rfl rfl (r_lssF rfl rfl (by omega)) ?_
    refine s_run rfl rfl (r_mv (v := .bool _) rfl) ?_
    refine s_run rfl (g_on 11 (by kernel_rfl) rfl) (r_mv (v := .int _ _) rfl) ?_
    refine s_run rfl (g_on 11 (by kernel_rfl) rfl) (r_lssF rfl rfl (by omega)) ?_
    refine s_run rfl rfl (r_pkF (v := .bool _) rfl rfl) ?_
    refine s_run rfl rfl (r_mv (v := .bool _) rfl) ?_
    refine s_run rfl (g_on 15 (by kernel_rfl) rfl) (r_mv (v := .int _ _) rfl) ?_
    refine s_run rfl (g_on 15 (by kernel_rfl) rfl) (r_mv (v := .pointer _) rfl) ?_
    refine s_call (g_on 15 (by kernel_rfl) rfl) (hL _ H.ents) (ca24 rfl) ?_
    rintro e W1 ⟨rfl, H'⟩
    refine ⟨_, rfl, ?_⟩
    have H := H.same H'; clear H'
    refine s_run rfl (g_on 15 (by kernel_rfl) rfl) (r_gtrT rfl rfl (by omega)) ?_
    refine s_run rfl rfl (r_pkF (v := .bool _) rfl rfl) ?_
    refine s_run rfl rfl (r_mv (v := .bool _) rfl) ?_
    refine s_off rfl (g_off 21 (by kernel_rfl) rfl rfl) ?_
    refine s_off rfl (g_off 21 (by kernel_rfl) rfl rfl) ?_
    refine s_off rfl (g_off 21 (by kernel_rfl) rfl rfl) ?_
    refine s_off rfl (g_off 21 (by kernel_rfl) rfl rfl) ?_
    refine s_off rfl (g_off 21 (by kernel_rfl) rfl rfl) ?_
    refine s_off rfl (g_off 21 (by kernel_rfl) rfl rfl) ?_
    refine s_run rfl rfl (r_pkT (v := .bool _) rfl rfl) ?_
    refine k_nil ?_
    refine c_norm ?_
    refine k_t rfl ?_
    refine k_seq ?_
    refine k_rg ?_
    refine s_run rfl rfl (r_as (v := .int _ _) rfl) ?_
    refine k_nil ?_
    refine c_norm ?_
    refine k_ret ?_
    refine c_ret ?_
    refine fin1r (v := .int _ _) rfl rfl ?_
    exact ⟨rfl, H⟩
  by_cases h4 : 8 * (m : Int) - a < n
  · rw [if_pos (.inr (.inr (.inr h4)))]
    refine k_in (N := 50) Try.func38 rfl rfl rfl ?_
    refine k_seq ?_
    refine k_rg ?_
    refine s_run rfl rfl (r_as (v := .int _ _) rfl) ?_
    refine k_nil ?_
    refine c_norm ?_
    refine k_seq ?_
    refine k_seq ?_
    refine k_rg ?_
    refine s_run rfl rfl (r_mv (v := .int _ _) rfl) ?_
    refine s_run rfl rfl (r_lssF rfl rfl (by omega)) ?_
    refine s_run rfl rfl (r_mv (v := .bool _) rfl) ?_
    refine s_run rfl (g_on 11 (by kernel_rfl) rfl) (r_mv (v := .int _ _) rfl) ?_
    refine s_run rfl (g_on 11 (by kernel_rfl) rfl) (r_lssF rfl rfl (by omega)) ?_
    refine s_run rfl rfl (r_pkF (v := .bool _) rfl rfl) ?_
    refine s_run rfl rfl (r_mv (v := .bool _) rfl) ?_
    refine s_run rfl (g_on 15 (by kernel_rfl) rfl) (r_mv (v := .int _ _) rfl) ?_
    refine s_run rfl (g_on 15 (by kernel_rfl) rfl) (r_mv (v := .pointer _) rfl) ?_
    refine s_call (g_on 15 (by kernel_rfl) rfl) (hL _ H.ents) (ca24 rfl) ?_
    rintro e W1 ⟨rfl, H'⟩
    refine ⟨_, rfl, ?_⟩
    have H := H.same H'; clear H'
    refine s_run rfl (g_on 15 (by kernel_rfl) rfl) (r_gtrF rfl rfl (by omega)) ?_
    refine s_run rfl rfl (r_pkF (v := .bool _) rfl rfl) ?_
    refine s_run rfl rfl (r_mv (v := .bool _) rfl) ?_
    refine s_run rfl (g_on 21 (by kernel_rfl) rfl) (r_mv (v := .int _ _) rfl) ?_
    refine s_run rfl (g_on 21 (by kernel_rfl) rfl) (r_mv (v := .pointer _) rfl) ?_
    refine s_call (g_on 21 (by kernel_rfl) rfl) (hL _ H.ents) (ca24 rfl) ?_
    rintro e W1 ⟨rfl, H'⟩
    refine ⟨_, rfl, ?_⟩
    have H := H.same H'; clear H'
    refine s_run rfl (g_on 21 (by kernel_rfl) rfl) (r_mv (v := .int _ _) rfl) ?_
    refine s_run rfl (g_on 21 (by kernel_rfl) rfl) (r_sub rfl rfl (wI (by omega))) ?_
    refine s_run rfl (g_on 21 (by kernel_rfl) rfl) (r_gtrT rfl rfl (by omega)) ?_
    refine s_run rfl rfl (r_pkF (v := .bool _) rfl rfl) ?_
    refine k_nil ?_
    refine c_norm ?_
    refine k_t rfl ?_
    refine k_seq ?_
    refine k_rg ?_
    refine s_run rfl rfl (r_as (v := .int _ _) rfl) ?_
    refine k_nil ?_
    refine c_norm ?_
    refine k_ret ?_
    refine c_ret ?_
    refine fin1r (v := .int _ _) rfl rfl ?_
    exact ⟨rfl, H⟩
  rw [if_neg (by omega)]
  by_cases h5 : n = 0
  · rw [if_pos h5]
    refine k_in (N := 50) Try.func38 rfl rfl rfl ?_
    refine k_seq ?_
    refine k_rg ?_
    refine s_run rfl rfl (r_as (v := .int _ _) rfl) ?_
    refine k_nil ?_
    refine c_norm ?_
    refine k_seq ?_
    refine k_seq ?_
    refine k_rg ?_
    refine s_run rfl rfl (r_mv (v := .int _ _) rfl) ?_
    refine s_run rfl rfl (r_lssF rfl rfl (by omega)) ?_
    refine s_run rfl rfl (r_mv (v := .bool _) rfl) ?_
    refine s_run rfl (g_on 11 (by kernel_rfl) rfl) (r_mv (v := .int _ _) rfl) ?_
    refine s_run rfl (g_on 11 (by kernel_rfl) rfl) (r_lssF rfl rfl (by omega)) ?_
    refine s_run rfl rfl (r_pkF (v := .bool _) rfl rfl) ?_
    refine s_run rfl rfl (r_mv (v := .bool _) rfl) ?_
    refine s_run rfl (g_on 15 (by kernel_rfl) rfl) (r_mv (v := .int _ _) rfl) ?_
    refine s_run rfl (g_on 15 (by kernel_rfl) rfl) (r_mv (v := .pointer _) rfl) ?_
    refine s_call (g_on 15 (by kernel_rfl) rfl) (hL _ H.ents) (ca24 rfl) ?_
    rintro e W1 ⟨rfl, H'⟩
    refine ⟨_, rfl, ?_⟩
    have H := H.same H'; clear H'
    refine s_run rfl (g_on 15 (by kernel_rfl) rfl) (r_gtrF rfl rfl (by omega)) ?_
    refine s_run rfl rfl (r_pkF (v := .bool _) rfl rfl) ?_
    refine s_run rfl rfl (r_mv (v := .bool _) rfl) ?_
    refine s_run rfl (g_on 21 (by kernel_rfl) rfl) (r_mv (v := .int _ _) rfl) ?_
    refine s_run rfl (g_on 21 (by kernel_rfl) rfl) (r_mv (v := .pointer _) rfl) ?_
    refine s_call (g_on 21 (by kernel_rfl) rfl) (hL _ H.ents) (ca24 rfl) ?_
    rintro e W1 ⟨rfl, H'⟩
    refine ⟨_, rfl, ?_⟩
    have H := H.same H'; clear H'
    refine s_run rfl (g_on 21 (by kernel_rfl) rfl) (r_mv (v := .int _ _) rfl) ?_
    refine s_run rfl (g_on 21 (by kernel_rfl) rfl) (r_sub rfl rfl (wI (by omega))) ?_
    refine s_run rfl (g_on 21 (by kernel_rfl) rfl) (r_gtrF rfl rfl (by omega)) ?_
    refine s_run rfl rfl (r_pkF (v := .bool _) rfl rfl) ?_
    refine k_nil ?_
    refine c_norm ?_
    refine k_f rfl ?_
    refine k_skip ?_
    refine c_norm ?_
    refine k_seq ?_
    refine k_seq ?_
    refine k_rg ?_
    refine s_run rfl rfl (r_mv (v := .int _ _) rfl) ?_
    refine s_run rfl rfl (r_gtrF rfl rfl (by omega)) ?_
    refine k_nil ?_
    refine c_norm ?_
    refine k_f rfl ?_
    refine k_skip ?_
    refine c_norm ?_
    refine k_seq ?_
    refine k_rg ?_
    refine s_run rfl rfl (r_mv (v := .pointer _) rfl) ?_
    refine s_call rfl (nFence g d m _ H.ents ho hg hm) (ca35 rfl) ?_
    rintro e W1 ⟨rfl, H'⟩
    refine ⟨_, rfl, ?_⟩
    have H := H.whole H'; clear H'
    refine s_run rfl rfl (r_as (v := .int _ _) rfl) ?_
    refine k_nil ?_
    refine c_norm ?_
    refine k_ret ?_
    refine fin1r (v := .int _ _) rfl rfl ?_
    exact ⟨rfl, H⟩
  rw [if_neg h5]
  obtain ⟨i, hi⟩ : ∃ i : Nat, (a / 8).toNat = i := ⟨_, rfl⟩
  obtain ⟨q, hq⟩ : ∃ q : Nat, ((a + n - 1) / 8).toNat + 1 - (a / 8).toNat = q := ⟨_, rfl⟩
  rw [hi] at hq
  rw [hi, hq]
  have hiq : (i : Int) = a / 8 ∧ ((i + q : Nat) : Int) = (a + n - 1) / 8 + 1 := by omega
  refine k_in (N := 50) Try.func38 rfl rfl rfl ?_
  refine k_seq ?_
  refine k_rg ?_
  refine s_run rfl rfl (r_as (v := .int _ _) rfl) ?_
  refine k_nil ?_
  refine c_norm ?_
  refine k_seq ?_
  refine k_seq ?_
  refine k_rg ?_
  refine s_run rfl rfl (r_mv (v := .int _ _) rfl) ?_
  refine s_run rfl rfl (r_lssF rfl rfl (by omega)) ?_
  refine s_run rfl rfl (r_mv (v := .bool _) rfl) ?_
  refine s_run rfl (g_on 11 (by kernel_rfl) rfl) (r_mv (v := .int _ _) rfl) ?_
  refine s_run rfl (g_on 11 (by kernel_rfl) rfl) (r_lssF rfl rfl (by omega)) ?_
  refine s_run rfl rfl (r_pkF (v := .bool _) rfl rfl) ?_
  refine s_run rfl rfl (r_mv (v := .bool _) rfl) ?_
  refine s_run rfl (g_on 15 (by kernel_rfl) rfl) (r_mv (v := .int _ _) rfl) ?_
  refine s_run rfl (g_on 15 (by kernel_rfl) rfl) (r_mv (v := .pointer _) rfl) ?_
  refine s_call (g_on 15 (by kernel_rfl) rfl) (hL _ H.ents) (ca24 rfl) ?_
  rintro e W1 ⟨rfl, H'⟩
  refine ⟨_, rfl, ?_⟩
  have H := H.same H'; clear H'
  refine s_run rfl (g_on 15 (by kernel_rfl) rfl) (r_gtrF rfl rfl (by omega)) ?_
  refine s_run rfl rfl (r_pkF (v := .bool _) rfl rfl) ?_
  refine s_run rfl rfl (r_mv (v := .bool _) rfl) ?_
  refine s_run rfl (g_on 21 (by kernel_rfl) rfl) (r_mv (v := .int _ _) rfl) ?_
  refine s_run rfl (g_on 21 (by kernel_rfl) rfl) (r_mv (v := .pointer _) rfl) ?_
  refine s_call (g_on 21 (by kernel_rfl) rfl) (hL _ H.ents) (ca24 rfl) ?_
  rintro e W1 ⟨rfl, H'⟩
  refine ⟨_, rfl, ?_⟩
  have H := H.same H'; clear H'
  refine s_run rfl (g_on 21 (by kernel_rfl) rfl) (r_mv (v := .int _ _) rfl) ?_
  refine s_run rfl (g_on 21 (by kernel_rfl) rfl) (r_sub rfl rfl (wI (by omega))) ?_
  refine s_run rfl (g_on 21 (by kernel_rfl) rfl) (r_gtrF rfl rfl (by omega)) ?_
  refine s_run rfl rfl (r_pkF (v := .bool _) rfl rfl) ?_
  refine k_nil ?_
  refine c_norm ?_
  refine k_f rfl ?_
  refine k_skip ?_
  refine c_norm ?_
  refine k_seq ?_
  refine k_seq ?_
  refine k_rg ?_
  refine s_run rfl rfl (r_mv (v := .int _ _) rfl) ?_
  refine s_run rfl rfl (r_gtrT rfl rfl (by omega)) ?_
  refine k_nil ?_
  refine c_norm ?_
  refine k_t rfl ?_
  refine k_seq ?_
  refine k_rg ?_
  refine s_run rfl rfl (r_mv (v := .int _ _) rfl) ?_
  refine s_run rfl rfl (r_quo rfl rfl (by omega) (wI (by omega))) ?_
  refine s_run rfl rfl (r_as (v := .int _ _) rfl) ?_
  refine k_nil ?_
  refine c_norm ?_
  refine k_b ?_
  refine k_loop (fun z f W => ∃ (j : Nat) (x : Nv.D), j ≤ q ∧ z = q - j ∧ Nv.Ok x m ∧ Nv.flushAll d m i q = Nv.flushAll x m (i + j) (q - j) ∧ f 0 = ptr g.p ∧ f 1 = .int .i64 a ∧ f 2 = .int .i64 n ∧ f 7 = .int .i64 (i + j : Nat) ∧ Heap w F (devL g x) W) q ⟨0, d, by omega, rfl, ho, rfl, rfl, rfl, rfl, by rw [Nat.add_zero, hiq.1]; rfl, H⟩ ?_
  clear H
  rintro z f W ⟨j, x, hj, rfl, hx, hfl, h0, h1', h2', h7, H⟩
  obtain ⟨f, rfl⟩ := live4 h0 h1' h2' h7
  clear h0 h1' h2' h7
  by_cases hlt : j < q
  · obtain ⟨r, hr⟩ : ∃ r, q - j = r + 1 := ⟨q - j - 1, by omega⟩
    rw [hr, Nv.flushAll] at hfl
    by_cases he : (Nv.flush x m ((i + j : Nat) : Int)).2 = 0
    · rw [if_pos he] at hfl
      have hF2 := nFlush g x m ((i + j : Nat) : Int) W H.ents hx hg hm
      rw [he] at hF2
      refine k_seq ?_
      refine k_seq ?_
      refine k_rg ?_
      refine s_run rfl rfl (r_mv (v := .int _ _) rfl) ?_
      refine s_run rfl rfl (r_mv (v := .int _ _) rfl) ?_
      refine s_run rfl rfl (r_mv (v := .int _ _) rfl) ?_
      refine s_run rfl rfl (r_add rfl rfl (wI (by omega))) ?_
      refine s_run rfl rfl (r_sub rfl rfl (wI (by omega))) ?_
      refine s_run rfl rfl (r_quo rfl rfl (by omega) (wI (by omega))) ?_
      refine s_run rfl rfl (r_leqT rfl rfl (by omega)) ?_
      refine k_nil ?_
      refine c_norm ?_
      refine k_t rfl ?_
      refine k_skip ?_
      refine c_norm ?_
      refine k_seq ?_
      refine k_b ?_
      refine k_seq ?_
      refine k_rg ?_
      refine s_run rfl rfl (r_mv (v := .pointer _) rfl) ?_
      refine s_run rfl rfl (r_mv (v := .int _ _) rfl) ?_
      refine s_call rfl (hF2) (ca49 rfl) ?_
      rintro e W1 ⟨rfl, H'⟩
      refine ⟨_, rfl, ?_⟩
      have H := H.whole H'; clear H'
      refine s_run rfl rfl (r_as (v := .int _ _) rfl) ?_
      refine k_nil ?_
      refine c_norm ?_
      refine k_seq ?_
      refine k_rg ?_
      refine s_run rfl rfl (r_mv (v := .int _ _) rfl) ?_
      refine s_run rfl rfl (r_neqF rfl rfl (by omega)) ?_
      refine k_nil ?_
      refine c_norm ?_
      refine k_f rfl ?_
      refine k_skip ?_
      refine b_norm ?_
      refine c_norm ?_
      refine k_rg ?_
      refine s_run rfl rfl (r_mv (v := .int _ _) rfl) ?_
      refine s_run rfl rfl (r_add rfl rfl (wI (by omega))) ?_
      refine s_run rfl rfl (r_as (v := .int _ _) rfl) ?_
      refine k_nil ?_
      refine c_round ?_
      refine ⟨_, _, ?_, rfl, j + 1, _, by omega, rfl, hx.flush _, ?_, rfl, rfl, rfl, rfl, H⟩
      · omega
      · rw [hfl, show q - (j + 1) = r from by omega]; rfl
    · rw [if_neg he] at hfl
      have hF2 := nFlush g x m ((i + j : Nat) : Int) W H.ents hx hg hm
      have er : Nv.flushAll d m i q = Nv.flush x m ((i + j : Nat) : Int) := hfl
      rw [er, if_neg he]
      refine k_seq ?_
      refine k_seq ?_
      refine k_rg ?_
      refine s_run rfl rfl (r_mv (v := .int _ _) rfl) ?_
      refine s_run rfl rfl (r_mv (v := .int _ _) rfl) ?_
      refine s_run rfl rfl (r_mv (v := .int _ _) rfl) ?_
      refine s_run rfl rfl (r_add rfl rfl (wI (by omega))) ?_
      refine s_run rfl rfl (r_sub rfl rfl (wI (by omega))) ?_
      refine s_run rfl rfl (r_quo rfl rfl (by omega) (wI (by omega))) ?_
      refine s_run rfl rfl (r_leqT rfl rfl (by omega)) ?_
      refine k_nil ?_
      refine c_norm ?_
      refine k_t rfl ?_
      refine k_skip ?_
      refine c_norm ?_
      refine k_seq ?_
      refine k_b ?_
      refine k_seq ?_
      refine k_rg ?_
      refine s_run rfl rfl (r_mv (v := .pointer _) rfl) ?_
      refine s_run rfl rfl (r_mv (v := .int _ _) rfl) ?_
      refine s_call rfl (hF2) (ca49 rfl) ?_
      rintro e W1 ⟨rfl, H'⟩
      refine ⟨_, rfl, ?_⟩
      have H := H.whole H'; clear H'
      refine s_run rfl rfl (r_as (v := .int _ _) rfl) ?_
      refine k_nil ?_
      refine c_norm ?_
      refine k_seq ?_
      refine k_rg ?_
      refine s_run rfl rfl (r_mv (v := .int _ _) rfl) ?_
      refine s_run rfl rfl (r_neqT rfl rfl (by omega)) ?_
      refine k_nil ?_
      refine c_norm ?_
      refine k_t rfl ?_
      refine k_seq ?_
      refine k_rg ?_
      refine s_run rfl rfl (r_mv (v := .int _ _) rfl) ?_
      refine s_run rfl rfl (r_as (v := .int _ _) rfl) ?_
      refine k_nil ?_
      refine c_norm ?_
      refine k_ret ?_
      refine b_ret ?_
      refine c_ret ?_
      refine c_ret ?_
      refine b_ret ?_
      refine c_ret ?_
      refine fin1r (v := .int _ _) rfl rfl ?_
      exact ⟨rfl, H⟩
  · obtain rfl : j = q := by omega
    rw [Nat.sub_self, Nv.flushAll] at hfl
    rw [hfl, if_pos rfl]
    refine k_seq ?_
    refine k_seq ?_
    refine k_rg ?_
    refine s_run rfl rfl (r_mv (v := .int _ _) rfl) ?_
    refine s_run rfl rfl (r_mv (v := .int _ _) rfl) ?_
    refine s_run rfl rfl (r_mv (v := .int _ _) rfl) ?_
    refine s_run rfl rfl (r_add rfl rfl (wI (by omega))) ?_
    refine s_run rfl rfl (r_sub rfl rfl (wI (by omega))) ?_
    refine s_run rfl rfl (r_quo rfl rfl (by omega) (wI (by omega))) ?_
    refine s_run rfl rfl (r_leqF rfl rfl (by omega)) ?_
    refine k_nil ?_
    refine c_norm ?_
    refine k_f rfl ?_
    refine k_exit ?_
    refine c_exit ?_
    refine c_exit ?_
    refine b_hit ?_
    refine c_norm ?_
    refine k_seq ?_
    refine k_rg ?_
    refine s_run rfl rfl (r_mv (v := .pointer _) rfl) ?_
    refine s_call rfl (nFence g x m _ H.ents hx hg hm) (ca35 rfl) ?_
    rintro e W1 ⟨rfl, H'⟩
    refine ⟨_, rfl, ?_⟩
    have H := H.whole H'; clear H'
    refine s_run rfl rfl (r_as (v := .int _ _) rfl) ?_
    refine k_nil ?_
    refine c_norm ?_
    refine k_ret ?_
    refine fin1r (v := .int _ _) rfl rfl ?_
    exact ⟨rfl, H⟩
end Go.Proofs.Ytmekhdclnhhhbaa
