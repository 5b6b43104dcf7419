/- Crash. -/
import Derived.Test.YtmekhdclnhhhbaaNvm6
namespace Go.Proofs.Ytmekhdclnhhhbaa
open Go.RowKit
set_option linter.unusedSimpArgs false
set_option linter.unusedVariables false
theorem nDirty' (g : Geo) (d : Nv.D) (m : Nat) (w : World) (hE : Ents (devL g d) w) (ho : Nv.Ok d m) (hm : m ≤ 100000) :
    Calls Try.prog 27 [ptr g.p].toArray w fun e w' => ∃ A b c, e = .returned (.slice A (Nv.dirtyTo d.dirty m).length c) ∧ ((Nv.dirtyTo d.dirty m).length ≠ 0 → A = some ⟨b, 0, none⟩) ∧ Heap w [] [vec (Value.int .i64) b (Nv.dirtyTo d.dirty m) 3] w' := by
  refine (nDirty g d m w hE ho hm).mono ?_
  rintro e w' ⟨A, c, rfl, H⟩
  obtain ⟨b, hb, H2⟩ := own_vec0 H
  exact ⟨A, b, c, rfl, hb, H2⟩
theorem crashTo_len {d : Nv.D} {m : Nat} (ho : Nv.Ok d m) (cs : List Int) : ∀ k, (Nv.crashTo d (Nv.dirtyTo d.dirty m) cs k).length = 8 * m
  | 0 => ho.hl
  | k + 1 => by
    unfold Nv.crashTo
    split
    · rename_i h
      obtain ⟨i, e, hi, _⟩ := Nv.dirtyTo_mem d.dirty m k _ (getE h.1)
      have e2 : ((Nv.dirtyTo d.dirty m).getD k 0).toNat = i := by
        have : (Nv.dirtyTo d.dirty m).getD k 0 = (i : Int) := e
        rw [this]; simp
      rw [e2]
      exact Nv.length_crashOne ho (crashTo_len ho cs k) hi _
    · exact crashTo_len ho cs k
theorem nCrash (g : Geo) (d : Nv.D) (m : Nat) (A : Option Addr) (nc cc : Nat) (cs : List Int) (w : World) (hE : Ents (devL g d) w) (ho : Nv.Ok d m) (hg : GOk g m) (hm : m ≤ 100000)
    (hz : Sees (Value.int .u8) w [] A cs) (hl : cs.length = nc) (hb : ∀ z ∈ cs, 0 ≤ z) (hnc : nc ≤ 1000000) :
    Calls Try.prog 37 [ptr g.p, .slice A nc cc].toArray w fun e w' => ∃ g', e = .returned (ptr g'.p) ∧ GOk g' m ∧ Heap w [] (devL g' (Nv.load (Nv.crashTo d (Nv.dirtyTo d.dirty m) cs (Nv.dirtyTo d.dirty m).length) m)) w' := by
  have HR := Heap.start hE
  have HR0 := HR
  have H := Heap.nil w
  have hlast := ho.hl
  generalize hF : ids (devL g d) = F at HR HR0
  unfold devL devCells at HR
  rw [hlast] at HR
  refine k_in (N := 68) Try.func37 rfl rfl rfl ?_
  refine k_seq ?_
  refine k_rg ?_
  refine s_run rfl rfl (r_as (v := .pointer _) rfl) ?_
  refine k_nil ?_
  refine c_norm ?_
  refine k_seq ?_
  refine k_rg ?_
  refine s_run rfl rfl (r_mv (v := .pointer _) rfl) ?_
  refine s_run rfl rfl (r_nc rfl) ?_
  refine s_run rfl rfl (r_fa0 rfl fo114_0) ?_
  refine s_run rfl rfl (r_lo (HR.same H.only) 0 rfl rfl rfl ag25) ?_
  refine s_call rfl (nClone _ _ _ d.last _ (fun _ => ⟨_, _, rfl, by simp, (HR.same H.only).reads0 1 rfl⟩) (by omega) (by omega)) (ca79 rfl) ?_
  rintro e W1 ⟨bo, co, rfl, hco, H'⟩
  refine ⟨_, rfl, ?_⟩
  have H := H.more H'; clear H'
  refine s_run rfl rfl (r_as (v := .slice _ _ _) rfl) ?_
  refine k_nil ?_
  refine c_norm ?_
  refine k_seq ?_
  refine k_seq ?_
  refine k_rg ?_
  refine s_run rfl rfl (r_mv (v := .pointer _) rfl) ?_
  refine s_call rfl (nDirty' g d m _ (HR0.same H.only).ents ho hm) (ca27 rfl) ?_
  rintro e W1 ⟨AD, bD, cD, rfl, hAD, H'⟩
  refine ⟨_, rfl, ?_⟩
  have H := H.more H'; clear H'; simp only [List.cons_append, List.nil_append] at H
  refine s_run rfl rfl (r_len rfl Try.underlying42) ?_
  refine s_run rfl rfl (r_mv (v := .int _ _) rfl) ?_
  refine k_nil ?_
  refine c_norm ?_
  refine k_b ?_
  have hdl := dirtyTo_len d.dirty m
  have hmem := Nv.dirtyTo_mem d.dirty m
  have hcl := crashTo_len ho cs
  have hstop := Nv.crashTo_stop d (Nv.dirtyTo d.dirty m) cs
  have hT := Nv.crashTo_succ d (Nv.dirtyTo d.dirty m) cs
  generalize hls : Nv.dirtyTo d.dirty m = ls at *
  refine k_loop (fun q f W => ∃ (k : Nat), k ≤ ls.length ∧ q = ls.length - k ∧ f 0 = ptr g.p ∧ f 1 = .slice A nc cc ∧ f 5 = .slice (some ⟨bo, 0, none⟩) (8 * m) co ∧ f 14 = .slice AD ls.length cD ∧ f 15 = .int .i64 ls.length ∧ f 16 = .int .i64 k ∧ Heap w [] [vec (Value.int .i64) bD ls 3, vec (Value.int .u64) bo (Nv.crashTo d ls cs k) 22] W) ls.length ⟨0, by omega, rfl, rfl, rfl, rfl, rfl, rfl, rfl, H⟩ ?_
  clear H
  rintro q f W ⟨k, hk, rfl, h0, h1, h5, h14, h15, h16, H⟩
  by_cases hlt : k < ls.length
  · obtain rfl := hAD (by omega)
    obtain ⟨i, hi, him, hdi⟩ := hmem k _ (getE hlt)
    have hli : ls[k]? = some (i : Int) := by rw [getE hlt, hi]
    obtain ⟨f, rfl⟩ := live6 h0 h1 h5 h14 h15 h16
    clear h0 h1 h5 h14 h15 h16
    by_cases hkc : k < cs.length
    · have hck := getE hkc
      have hc0 : 0 ≤ cs.getD k default := hb _ (List.mem_of_getElem? hck)
      obtain ⟨bc, oc, rfl, _, hrc⟩ := hz (by omega)
      have hcell := hrc k _ hck
      have er : Nv.crashTo d ls cs (k + 1) = Nv.crashOne d (Nv.crashTo d ls cs k) i (cs.getD k default) := by
        rw [hT, if_pos ⟨hlt, hkc⟩]
        have : ls.getD k 0 = (i : Int) := hi
        rw [this]; simp
      have hck2 := hcl k
      have hck3 := hcl (k + 1)
      generalize Nv.crashTo d ls cs k = out at *
      generalize cs.getD k default = c at *
      have hgc := hg.c
      have hgf := hg.f
      have hf := ho.hf
      have hc := ho.hc
      have hp := ho.hp
      unfold Nv.crashOne at er
      by_cases g1 : c % 3 = 1
      · rw [if_pos g1] at er
        by_cases g2 : d.pend.getD i false = true
        · have g2' : d.pend[i]? = some true := by rw [getE (by omega)]; exact congrArg some g2
          rw [if_pos g2] at er
          refine k_seq ?_
          refine k_rg ?_
          refine s_run rfl rfl (r_lssT rfl rfl (by omega)) ?_
          refine k_nil ?_
          refine c_norm ?_
          refine k_seq ?_
          refine k_t rfl ?_
          refine k_skip ?_
          refine c_norm ?_
          refine k_seq ?_
          refine k_b ?_
          refine k_seq ?_
          refine k_rg ?_
          refine s_run rfl rfl (r_mv (v := .int _ _) rfl) ?_
          refine s_run rfl rfl (r_ix1 rfl rfl rfl (by omega) Try.underlying42 sz3) ?_
          refine s_run rfl rfl (r_lv H 0 rfl rfl (by assumption) ag3) ?_
          refine s_run rfl rfl (r_as (v := .int _ _) rfl) ?_
          refine s_run rfl rfl (r_as (v := .int _ _) rfl) ?_
          refine k_nil ?_
          refine c_norm ?_
          refine k_seq ?_
          refine k_seq ?_
          refine k_rg ?_
          refine s_run rfl rfl (r_mv (v := .int _ _) rfl) ?_
          refine s_run rfl rfl (r_mv (v := .slice _ _ _) rfl) ?_
          refine s_run rfl rfl (r_len rfl Try.underlying49) ?_
          refine s_run rfl rfl (r_geqF rfl rfl (by omega)) ?_
          refine k_nil ?_
          refine c_norm ?_
          refine k_f rfl ?_
          refine k_skip ?_
          refine c_norm ?_
          refine k_seq ?_
          refine k_rg ?_
          refine s_run rfl rfl (r_mv (v := .slice _ _ _) rfl) ?_
          refine s_run rfl rfl (r_mv (v := .int _ _) rfl) ?_
          refine s_run rfl rfl (r_ix1o rfl rfl rfl (by omega) Try.underlying49 sz5) ?_
          refine s_run rfl rfl (r_lr H rfl hcell (by simp) ag5) ?_
          refine s_run rfl rfl (r_rem rfl rfl (by omega)) ?_
          refine k_nil ?_
          refine c_norm ?_
          refine k_b ?_
          refine k_seq ?_
          refine k_rg ?_
          refine s_run rfl rfl (r_eqlT rfl rfl (by omega)) ?_
          refine s_run rfl rfl (r_as (v := .bool _) rfl) ?_
          refine k_nil ?_
          refine c_norm ?_
          refine k_t rfl ?_
          refine k_seq ?_
          refine k_rg ?_
          refine s_run rfl rfl (r_mv (v := .pointer _) rfl) ?_
          refine s_run rfl rfl (r_nc rfl) ?_
          refine s_run rfl rfl (r_fa0 rfl fo114_4) ?_
          refine s_run rfl rfl (r_lo (HR.same H.only) 0 rfl rfl rfl ag53) ?_
          refine s_run rfl rfl (r_mv (v := .int _ _) rfl) ?_
          refine s_run rfl rfl (r_ix1 rfl rfl rfl (by omega) Try.underlying53 sz4) ?_
          refine s_run rfl rfl (r_lv (HR.same H.only) 5 rfl rfl (by assumption) ag4) ?_
          refine k_nil ?_
          refine c_norm ?_
          refine k_t rfl ?_
          refine k_qt 11 mixed (by kernel_rfl) H rfl rfl ?_
          refine q_run rfl rfl (fun _ H => r_mv (v := .pointer _) rfl) ?_
          refine q_run rfl rfl (fun _ H => r_mv (v := .slice _ _ _) rfl) ?_
          refine q_run rfl rfl (fun _ H => r_mv (v := .int _ _) rfl) ?_
          refine q_call rfl rfl (fun _ H => nPart bo co i _ _ _ (by omega)) (ca77 rfl) ?_
          refine q_run rfl rfl (fun _ H => r_mv (v := .pointer _) rfl) ?_
          refine q_run rfl rfl (fun _ H => r_mv (v := .pointer _) rfl) ?_
          refine q_run rfl rfl (fun _ H => r_nc rfl) ?_
          refine q_run rfl rfl (fun _ H => r_fa0 rfl fo114_2) ?_
          refine q_run rfl rfl (fun _ H => r_lo (HR.same H.only) 0 rfl rfl rfl ag25) ?_
          refine q_run rfl rfl (fun _ H => r_mv (v := .int _ _) rfl) ?_
          refine q_call rfl rfl (fun _ H => nPart g.bf g.cf i _ _ _ (by omega)) (ca77 rfl) ?_
          refine q_nil ?_
          intro _ H'; clear H; have H := H'; clear H'
          refine s_cpo (enc := (Value.int .u64)) H 1 rfl rfl rfl rfl (HR.reads 3 rfl (8 * i) 8) (by simp) (by simp; omega) (fun _ => rfl) (by first | omega | (simp; omega)) Try.underlying25 inf22 ?_
          intro _ H'; simp only [List.set_cons_zero, List.set_cons_succ, List.take_succ_cons, List.take_zero, List.drop_succ_cons, List.drop_zero, List.cons_append, List.nil_append, List.append_nil, List.length_cons, List.length_nil, Nat.reduceAdd] at H'; clear H; have H := H'; clear H'
          refine k_nil ?_
          refine b_norm ?_
          refine b_norm ?_
          refine c_norm ?_
          refine k_rg ?_
          refine s_run rfl rfl (r_add rfl rfl (wI (by omega))) ?_
          refine s_run rfl rfl (r_mv (v := .int _ _) rfl) ?_
          refine k_nil ?_
          refine c_round ?_
          refine ⟨_, _, ?_, rfl, k + 1, by omega, rfl, rfl, rfl, rfl, rfl, rfl, rfl, ?_⟩
          · omega
          · rw [er]; simpa [Nv.setPart, Nv.part] using H
        · have g2' : d.pend[i]? = some false := by rw [getE (by omega)]; exact congrArg some (by simpa using g2)
          rw [if_neg g2] at er
          refine k_seq ?_
          refine k_rg ?_
          refine s_run rfl rfl (r_lssT rfl rfl (by omega)) ?_
          refine k_nil ?_
          refine c_norm ?_
          refine k_seq ?_
          refine k_t rfl ?_
          refine k_skip ?_
          refine c_norm ?_
          refine k_seq ?_
          refine k_b ?_
          refine k_seq ?_
          refine k_rg ?_
          refine s_run rfl rfl (r_mv (v := .int _ _) rfl) ?_
          refine s_run rfl rfl (r_ix1 rfl rfl rfl (by omega) Try.underlying42 sz3) ?_
          refine s_run rfl rfl (r_lv H 0 rfl rfl (by assumption) ag3) ?_
          refine s_run rfl rfl (r_as (v := .int _ _) rfl) ?_
          refine s_run rfl rfl (r_as (v := .int _ _) rfl) ?_
          refine k_nil ?_
          refine c_norm ?_
          refine k_seq ?_
          refine k_seq ?_
          refine k_rg ?_
          refine s_run rfl rfl (r_mv (v := .int _ _) rfl) ?_
          refine s_run rfl rfl (r_mv (v := .slice _ _ _) rfl) ?_
          refine s_run rfl rfl (r_len rfl Try.underlying49) ?_
          refine s_run rfl rfl (r_geqF rfl rfl (by omega)) ?_
          refine k_nil ?_
          refine c_norm ?_
          refine k_f rfl ?_
          refine k_skip ?_
          refine c_norm ?_
          refine k_seq ?_
          refine k_rg ?_
          refine s_run rfl rfl (r_mv (v := .slice _ _ _) rfl) ?_
          refine s_run rfl rfl (r_mv (v := .int _ _) rfl) ?_
          refine s_run rfl rfl (r_ix1o rfl rfl rfl (by omega) Try.underlying49 sz5) ?_
          refine s_run rfl rfl (r_lr H rfl hcell (by simp) ag5) ?_
          refine s_run rfl rfl (r_rem rfl rfl (by omega)) ?_
          refine k_nil ?_
          refine c_norm ?_
          refine k_b ?_
          refine k_seq ?_
          refine k_rg ?_
          refine s_run rfl rfl (r_eqlT rfl rfl (by omega)) ?_
          refine s_run rfl rfl (r_as (v := .bool _) rfl) ?_
          refine k_nil ?_
          refine c_norm ?_
          refine k_t rfl ?_
          refine k_seq ?_
          refine k_rg ?_
          refine s_run rfl rfl (r_mv (v := .pointer _) rfl) ?_
          refine s_run rfl rfl (r_nc rfl) ?_
          refine s_run rfl rfl (r_fa0 rfl fo114_4) ?_
          refine s_run rfl rfl (r_lo (HR.same H.only) 0 rfl rfl rfl ag53) ?_
          refine s_run rfl rfl (r_mv (v := .int _ _) rfl) ?_
          refine s_run rfl rfl (r_ix1 rfl rfl rfl (by omega) Try.underlying53 sz4) ?_
          refine s_run rfl rfl (r_lv (HR.same H.only) 5 rfl rfl (by assumption) ag4) ?_
          refine k_nil ?_
          refine c_norm ?_
          refine k_f rfl ?_
          refine k_skip ?_
          refine b_norm ?_
          refine b_norm ?_
          refine c_norm ?_
          refine k_rg ?_
          refine s_run rfl rfl (r_add rfl rfl (wI (by omega))) ?_
          refine s_run rfl rfl (r_mv (v := .int _ _) rfl) ?_
          refine k_nil ?_
          refine c_round ?_
          refine ⟨_, _, ?_, rfl, k + 1, by omega, rfl, rfl, rfl, rfl, rfl, rfl, rfl, ?_⟩
          · omega
          · rw [er]; exact H
      · rw [if_neg g1] at er
        by_cases g2 : c % 3 = 2
        · rw [if_pos g2] at er
          refine k_seq ?_
          refine k_rg ?_
          refine s_run rfl rfl (r_lssT rfl rfl (by omega)) ?_
          refine k_nil ?_
          refine c_norm ?_
          refine k_seq ?_
          refine k_t rfl ?_
          refine k_skip ?_
          refine c_norm ?_
          refine k_seq ?_
          refine k_b ?_
          refine k_seq ?_
          refine k_rg ?_
          refine s_run rfl rfl (r_mv (v := .int _ _) rfl) ?_
          refine s_run rfl rfl (r_ix1 rfl rfl rfl (by omega) Try.underlying42 sz3) ?_
          refine s_run rfl rfl (r_lv H 0 rfl rfl (by assumption) ag3) ?_
          refine s_run rfl rfl (r_as (v := .int _ _) rfl) ?_
          refine s_run rfl rfl (r_as (v := .int _ _) rfl) ?_
          refine k_nil ?_
          refine c_norm ?_
          refine k_seq ?_
          refine k_seq ?_
          refine k_rg ?_
          refine s_run rfl rfl (r_mv (v := .int _ _) rfl) ?_
          refine s_run rfl rfl (r_mv (v := .slice _ _ _) rfl) ?_
          refine s_run rfl rfl (r_len rfl Try.underlying49) ?_
          refine s_run rfl rfl (r_geqF rfl rfl (by omega)) ?_
          refine k_nil ?_
          refine c_norm ?_
          refine k_f rfl ?_
          refine k_skip ?_
          refine c_norm ?_
          refine k_seq ?_
          refine k_rg ?_
          refine s_run rfl rfl (r_mv (v := .slice _ _ _) rfl) ?_
          refine s_run rfl rfl (r_mv (v := .int _ _) rfl) ?_
          refine s_run rfl rfl (r_ix1o rfl rfl rfl (by omega) Try.underlying49 sz5) ?_
          refine s_run rfl rfl (r_lr H rfl hcell (by simp) ag5) ?_
          refine s_run rfl rfl (r_rem rfl rfl (by omega)) ?_
          refine k_nil ?_
          refine c_norm ?_
          refine k_b ?_
          refine k_seq ?_
          refine k_rg ?_
          refine s_run rfl rfl (r_eqlF rfl rfl (by omega)) ?_
          refine s_run rfl rfl (r_as (v := .bool _) rfl) ?_
          refine k_nil ?_
          refine c_norm ?_
          refine k_f rfl ?_
          refine k_seq ?_
          refine k_rg ?_
          refine s_run rfl rfl (r_eqlT rfl rfl (by omega)) ?_
          refine s_run rfl rfl (r_as (v := .bool _) rfl) ?_
          refine k_nil ?_
          refine c_norm ?_
          refine k_t rfl ?_
          refine k_qt 11 mixed (by kernel_rfl) H rfl rfl ?_
          refine q_run rfl rfl (fun _ H => r_mv (v := .pointer _) rfl) ?_
          refine q_run rfl rfl (fun _ H => r_mv (v := .slice _ _ _) rfl) ?_
          refine q_run rfl rfl (fun _ H => r_mv (v := .int _ _) rfl) ?_
          refine q_call rfl rfl (fun _ H => nPart bo co i _ _ _ (by omega)) (ca77 rfl) ?_
          refine q_run rfl rfl (fun _ H => r_mv (v := .pointer _) rfl) ?_
          refine q_run rfl rfl (fun _ H => r_mv (v := .pointer _) rfl) ?_
          refine q_run rfl rfl (fun _ H => r_nc rfl) ?_
          refine q_run rfl rfl (fun _ H => r_fa0 rfl fo114_1) ?_
          refine q_run rfl rfl (fun _ H => r_lo (HR.same H.only) 0 rfl rfl rfl ag25) ?_
          refine q_run rfl rfl (fun _ H => r_mv (v := .int _ _) rfl) ?_
          refine q_call rfl rfl (fun _ H => nPart g.bc g.cc i _ _ _ (by omega)) (ca77 rfl) ?_
          refine q_nil ?_
          intro _ H'; clear H; have H := H'; clear H'
          refine s_cpo (enc := (Value.int .u64)) H 1 rfl rfl rfl rfl (HR.reads 2 rfl (8 * i) 8) (by simp) (by simp; omega) (fun _ => rfl) (by first | omega | (simp; omega)) Try.underlying25 inf22 ?_
          intro _ H'; simp only [List.set_cons_zero, List.set_cons_succ, List.take_succ_cons, List.take_zero, List.drop_succ_cons, List.drop_zero, List.cons_append, List.nil_append, List.append_nil, List.length_cons, List.length_nil, Nat.reduceAdd] at H'; clear H; have H := H'; clear H'
          refine k_nil ?_
          refine b_norm ?_
          refine b_norm ?_
          refine c_norm ?_
          refine k_rg ?_
          refine s_run rfl rfl (r_add rfl rfl (wI (by omega))) ?_
          refine s_run rfl rfl (r_mv (v := .int _ _) rfl) ?_
          refine k_nil ?_
          refine c_round ?_
          refine ⟨_, _, ?_, rfl, k + 1, by omega, rfl, rfl, rfl, rfl, rfl, rfl, rfl, ?_⟩
          · omega
          · rw [er]; simpa [Nv.setPart, Nv.part] using H
        · rw [if_neg g2] at er
          refine k_seq ?_
          refine k_rg ?_
          refine s_run rfl rfl (r_lssT rfl rfl (by omega)) ?_
          refine k_nil ?_
          refine c_norm ?_
          refine k_seq ?_
          refine k_t rfl ?_
          refine k_skip ?_
          refine c_norm ?_
          refine k_seq ?_
          refine k_b ?_
          refine k_seq ?_
          refine k_rg ?_
          refine s_run rfl rfl (r_mv (v := .int _ _) rfl) ?_
          refine s_run rfl rfl (r_ix1 rfl rfl rfl (by omega) Try.underlying42 sz3) ?_
          refine s_run rfl rfl (r_lv H 0 rfl rfl (by assumption) ag3) ?_
          refine s_run rfl rfl (r_as (v := .int _ _) rfl) ?_
          refine s_run rfl rfl (r_as (v := .int _ _) rfl) ?_
          refine k_nil ?_
          refine c_norm ?_
          refine k_seq ?_
          refine k_seq ?_
          refine k_rg ?_
          refine s_run rfl rfl (r_mv (v := .int _ _) rfl) ?_
          refine s_run rfl rfl (r_mv (v := .slice _ _ _) rfl) ?_
          refine s_run rfl rfl (r_len rfl Try.underlying49) ?_
          refine s_run rfl rfl (r_geqF rfl rfl (by omega)) ?_
          refine k_nil ?_
          refine c_norm ?_
          refine k_f rfl ?_
          refine k_skip ?_
          refine c_norm ?_
          refine k_seq ?_
          refine k_rg ?_
          refine s_run rfl rfl (r_mv (v := .slice _ _ _) rfl) ?_
          refine s_run rfl rfl (r_mv (v := .int _ _) rfl) ?_
          refine s_run rfl rfl (r_ix1o rfl rfl rfl (by omega) Try.underlying49 sz5) ?_
          refine s_run rfl rfl (r_lr H rfl hcell (by simp) ag5) ?_
          refine s_run rfl rfl (r_rem rfl rfl (by omega)) ?_
          refine k_nil ?_
          refine c_norm ?_
          refine k_b ?_
          refine k_seq ?_
          refine k_rg ?_
          refine s_run rfl rfl (r_eqlF rfl rfl (by omega)) ?_
          refine s_run rfl rfl (r_as (v := .bool _) rfl) ?_
          refine k_nil ?_
          refine c_norm ?_
          refine k_f rfl ?_
          refine k_seq ?_
          refine k_rg ?_
          refine s_run rfl rfl (r_eqlF rfl rfl (by omega)) ?_
          refine s_run rfl rfl (r_as (v := .bool _) rfl) ?_
          refine k_nil ?_
          refine c_norm ?_
          refine k_f rfl ?_
          refine k_skip ?_
          refine b_norm ?_
          refine b_norm ?_
          refine c_norm ?_
          refine k_rg ?_
          refine s_run rfl rfl (r_add rfl rfl (wI (by omega))) ?_
          refine s_run rfl rfl (r_mv (v := .int _ _) rfl) ?_
          refine k_nil ?_
          refine c_round ?_
          refine ⟨_, _, ?_, rfl, k + 1, by omega, rfl, rfl, rfl, rfl, rfl, rfl, rfl, ?_⟩
          · omega
          · rw [er]; exact H
    · have e := hstop k (.inr (by omega)) (ls.length - k)
      rw [show k + (ls.length - k) = ls.length from by omega] at e
      have hck := hcl k
      rw [e]
      generalize Nv.crashTo d ls cs k = out at *
      refine k_seq ?_
      refine k_rg ?_
      refine s_run rfl rfl (r_lssT rfl rfl (by omega)) ?_
      refine k_nil ?_
      refine c_norm ?_
      refine k_seq ?_
      refine k_t rfl ?_
      refine k_skip ?_
      refine c_norm ?_
      refine k_seq ?_
      refine k_b ?_
      refine k_seq ?_
      refine k_rg ?_
      refine s_run rfl rfl (r_mv (v := .int _ _) rfl) ?_
      refine s_run rfl rfl (r_ix1 rfl rfl rfl (by omega) Try.underlying42 sz3) ?_
      refine s_run rfl rfl (r_lv H 0 rfl rfl (by assumption) ag3) ?_
      refine s_run rfl rfl (r_as (v := .int _ _) rfl) ?_
      refine s_run rfl rfl (r_as (v := .int _ _) rfl) ?_
      refine k_nil ?_
      refine c_norm ?_
      refine k_seq ?_
      refine k_seq ?_
      refine k_rg ?_
      refine s_run rfl rfl (r_mv (v := .int _ _) rfl) ?_
      refine s_run rfl rfl (r_mv (v := .slice _ _ _) rfl) ?_
      refine s_run rfl rfl (r_len rfl Try.underlying49) ?_
      refine s_run rfl rfl (r_geqT rfl rfl (by omega)) ?_
      refine k_nil ?_
      refine c_norm ?_
      refine k_t rfl ?_
      refine k_exit ?_
      refine c_exit ?_
      refine b_miss rfl ?_
      refine c_exit ?_
      refine c_exit ?_
      refine b_hit ?_
      refine c_norm ?_
      refine k_seq ?_
      refine k_rg ?_
      refine s_run rfl rfl (r_mv (v := .slice _ _ _) rfl) ?_
      refine s_call rfl (nload bo co m out _ H.drop.ents hck hm hco) (ca65 rfl) ?_
      rintro e W1 ⟨g', rfl, hg', H'⟩
      refine ⟨_, rfl, ?_⟩
      have H := H.drop.whole H'; clear H'
      refine s_run rfl rfl (r_as (v := .pointer _) rfl) ?_
      refine k_nil ?_
      refine c_norm ?_
      refine k_ret ?_
      refine fin1r (v := .pointer _) rfl rfl ?_
      exact ⟨g', rfl, hg', H⟩
  · obtain rfl : k = ls.length := by omega
    obtain ⟨f, rfl⟩ := live6 h0 h1 h5 h14 h15 h16
    clear h0 h1 h5 h14 h15 h16
    have hck := hcl ls.length
    generalize Nv.crashTo d ls cs ls.length = out at *
    refine k_seq ?_
    refine k_rg ?_
    refine s_run rfl rfl (r_lssF rfl rfl (by omega)) ?_
    refine k_nil ?_
    refine c_norm ?_
    refine k_seq ?_
    refine k_f rfl ?_
    refine k_exit ?_
    refine c_exit ?_
    refine c_exit ?_
    refine b_hit ?_
    refine c_norm ?_
    refine k_seq ?_
    refine k_rg ?_
    refine s_run rfl rfl (r_mv (v := .slice _ _ _) rfl) ?_
    refine s_call rfl (nload bo co m out _ H.drop.ents hck hm hco) (ca65 rfl) ?_
    rintro e W1 ⟨g', rfl, hg', H'⟩
    refine ⟨_, rfl, ?_⟩
    have H := H.drop.whole H'; clear H'
    refine s_run rfl rfl (r_as (v := .pointer _) rfl) ?_
    refine k_nil ?_
    refine c_norm ?_
    refine k_ret ?_
    refine fin1r (v := .pointer _) rfl rfl ?_
    exact ⟨g', rfl, hg', H⟩
end Go.Proofs.Ytmekhdclnhhhbaa
