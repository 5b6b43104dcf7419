/- Parts of the proof, one behind the other. -/
import Derived.Lib.AppendZeros
import Derived.Laws.BytesArg
import Derived.Deep.RegionHeld3
import Derived.Laws.Cover1
import Derived.Deep.Slices
import Derived.Deep.Fields
import Derived.ChangeSame
import Derived.Test.YtmekhdclnhhhbaaKExploreStatesb
section
namespace Go.Proofs.Ytmekhdclnhhhbaa
open Go.RowKit
set_option linter.unusedSimpArgs false
set_option linter.unusedVariables false
theorem nDirty' (g : Geo) (d : Nv.D) (m : Nat) (w : World) (hE : Ents (devL g d) w) (ho : Nv.Ok d m) (hm : m ≤ 100000) :
    Calls Try.prog 27 [ptr g.p].toArray w fun e w' => ∃ A b c, e = .returned (.slice A (Nv.dirtyTo d.dirty m).length c) ∧ ((Nv.dirtyTo d.dirty m).length ≠ 0 → A = some ⟨b, 0, none⟩) ∧ Heap w [] [vec (Value.int .i64) b (Nv.dirtyTo d.dirty m) 3] w' := by
  refine (nDirty g d m w hE ho hm).mono ?_
  rintro e w' ⟨A, c, rfl, H⟩
  obtain ⟨b, hb, H2⟩ := own_vec0 H
  exact ⟨A, b, c, rfl, hb, H2⟩
theorem crashTo_len {d : Nv.D} {m : Nat} (ho : Nv.Ok d m) (cs : List Int) : ∀ k, (Nv.crashTo d (Nv.dirtyTo d.dirty m) cs k).length = 8 * m
  | 0 => ho.hl
  | k + 1 => by
    unfold Nv.crashTo
    split
    · rename_i h
      obtain ⟨i, e, hi, _⟩ := Nv.dirtyTo_mem d.dirty m k _ (getE h.1)
      have e2 : ((Nv.dirtyTo d.dirty m).getD k 0).toNat = i := by
        have : (Nv.dirtyTo d.dirty m).getD k 0 = (i : Int) := e
        rw [this]; simp
      rw [e2]
      exact Nv.length_crashOne ho (crashTo_len ho cs k) hi _
    · exact crashTo_len ho cs k
theorem nCrash (g : Geo) (d : Nv.D) (m : Nat) (A : Option Addr) (nc cc : Nat) (cs : List Int) (w : World) (hE : Ents (devL g d) w) (ho : Nv.Ok d m) (hg : GOk g m) (hm : m ≤ 100000)
    (hz : Sees (Value.int .u8) w [] A cs) (hl : cs.length = nc) (hb : ∀ z ∈ cs, 0 ≤ z) (hnc : nc ≤ 1000000) :
    Calls Try.prog 37 [ptr g.p, .slice A nc cc].toArray w fun e w' => ∃ g', e = .returned (ptr g'.p) ∧ GOk g' m ∧ Heap w [] (devL g' (Nv.load (Nv.crashTo d (Nv.dirtyTo d.dirty m) cs (Nv.dirtyTo d.dirty m).length) m)) w' := by
  have HR := Heap.start hE
  have HR0 := HR
  have H := Heap.nil w
  have hlast := ho.hl
  generalize hF : ids (devL g d) = F at HR HR0
  unfold devL devCells at HR
  rw [hlast] at HR
  refine k_in (N := 68) Try.func37 rfl rfl rfl ?_
  refine k_seq ?_
  refine k_rg ?_
  refine s_run rfl rfl (r_as (v := .pointer _) rfl) ?_
  refine k_nil ?_
  refine c_norm ?_
  refine k_seq ?_
  refine k_rg ?_
  refine s_run rfl rfl (r_mv (v := .pointer _) rfl) ?_
  refine s_run rfl rfl (r_nc rfl) ?_
  refine s_run rfl rfl (r_fa0 rfl fo114_0) ?_
  refine s_run rfl rfl (r_lo (HR.same H.only) 0 rfl rfl rfl ag25) ?_
  refine s_call rfl (nClone _ _ _ d.last _ (fun _ => ⟨_, _, rfl, by simp, (HR.same H.only).reads0 1 rfl⟩) (by omega) (by omega)) (ca79 rfl) ?_
  rintro e W1 ⟨bo, co, rfl, hco, H'⟩
  refine ⟨_, rfl, ?_⟩
  have H := H.more H'; clear H'
  refine s_run rfl rfl (r_as (v := .slice _ _ _) rfl) ?_
  refine k_nil ?_
  refine c_norm ?_
  refine k_seq ?_
  refine k_seq ?_
  refine k_rg ?_
  refine s_run rfl rfl (r_mv (v := .pointer _) rfl) ?_
  refine s_call rfl (nDirty' g d m _ (HR0.same H.only).ents ho hm) (ca27 rfl) ?_
  rintro e W1 ⟨AD, bD, cD, rfl, hAD, H'⟩
  refine ⟨_, rfl, ?_⟩
  have H := H.more H'; clear H'; simp only [List.cons_append, List.nil_append] at H
  refine s_run rfl rfl (r_len rfl Try.underlying42) ?_
  refine s_run rfl rfl (r_mv (v := .int _ _) rfl) ?_
  refine k_nil ?_
  refine c_norm ?_
  refine k_b ?_
  have hdl := dirtyTo_len d.dirty m
  have hmem := Nv.dirtyTo_mem d.dirty m
  have hcl := crashTo_len ho cs
  have hstop := Nv.crashTo_stop d (Nv.dirtyTo d.dirty m) cs
  have hT := Nv.crashTo_succ d (Nv.dirtyTo d.dirty m) cs
  generalize hls : Nv.dirtyTo d.dirty m = ls at *
  refine k_loop (fun q f W => ∃ (k : Nat), k ≤ ls.length ∧ q = ls.length - k ∧ f 0 = ptr g.p ∧ f 1 = .slice A nc cc ∧ f 5 = .slice (some ⟨bo, 0, none⟩) (8 * m) co ∧ f 14 = .slice AD ls.length cD ∧ f 15 = .int .i64 ls.length ∧ f 16 = .int .i64 k ∧ Heap w [] [vec (Value.int .i64) bD ls 3, vec (Value.int .u64) bo (Nv.crashTo d ls cs k) 22] W) ls.length ⟨0, by omega, rfl, rfl, rfl, rfl, rfl, rfl, rfl, H⟩ ?_
  clear H
  rintro q f W ⟨k, hk, rfl, h0, h1, h5, h14, h15, h16, H⟩
  by_cases hlt : k < ls.length
  · obtain rfl := hAD (by omega)
    obtain ⟨i, hi, him, hdi⟩ := hmem k _ (getE hlt)
    have hli : ls[k]? = some (i : Int) := by rw [getE hlt, hi]
    obtain ⟨f, rfl⟩ := live6 h0 h1 h5 h14 h15 h16
    clear h0 h1 h5 h14 h15 h16
    by_cases hkc : k < cs.length
    · have hck := getE hkc
      have hc0 : 0 ≤ cs.getD k default := hb _ (List.mem_of_getElem? hck)
      obtain ⟨bc, oc, rfl, _, hrc⟩ := hz (by omega)
      have hcell := hrc k _ hck
      have er : Nv.crashTo d ls cs (k + 1) = Nv.crashOne d (Nv.crashTo d ls cs k) i (cs.getD k default) := by
        rw [hT, if_pos ⟨hlt, hkc⟩]
        have : ls.getD k 0 = (i : Int) := hi
        rw [this]; simp
      have hck2 := hcl k
      have hck3 := hcl (k + 1)
      generalize Nv.crashTo d ls cs k = out at *
      generalize cs.getD k default = c at *
      have hgc := hg.c
      have hgf := hg.f
      have hf := ho.hf
      have hc := ho.hc
      have hp := ho.hp
      unfold Nv.crashOne at er
      by_cases g1 : c % 3 = 1
      · rw [if_pos g1] at er
        by_cases g2 : d.pend.getD i false = true
        · have g2' : d.pend[i]? = some true := by rw [getE (by omega)]; exact congrArg some g2
          rw [if_pos g2] at er
          refine k_seq ?_
          refine k_rg ?_
          refine s_run rfl rfl (r_lssT rfl rfl (by omega)) ?_
          refine k_nil ?_
          refine c_norm ?_
          refine k_seq ?_
          refine k_t rfl ?_
          refine k_skip ?_
          refine c_norm ?_
          refine k_seq ?_
          refine k_b ?_
          refine k_seq ?_
          refine k_rg ?_
          refine s_run rfl rfl (r_mv (v := .int _ _) rfl) ?_
          refine s_run rfl rfl (r_ix1 rfl rfl rfl (by omega) Try.underlying42 sz3) ?_
          refine s_run rfl rfl (r_lv H 0 rfl rfl (by assumption) ag3) ?_
          refine s_run rfl rfl (r_as (v := .int _ _) rfl) ?_
          refine s_run rfl rfl (r_as (v := .int _ _) rfl) ?_
          refine k_nil ?_
          refine c_norm ?_
          refine k_seq ?_
          refine k_seq ?_
          refine k_rg ?_
          refine s_run rfl rfl (r_mv (v := .int _ _) rfl) ?_
          refine s_run rfl rfl (r_mv (v := .slice _ _ _) rfl) ?_
          refine s_run rfl rfl (r_len rfl Try.underlying49) ?_
          refine s_run rfl rfl (r_geqF rfl rfl (by omega)) ?_
          refine k_nil ?_
          refine c_norm ?_
          refine k_f rfl ?_
          refine k_skip ?_
          refine c_norm ?_
          refine k_seq ?_
          refine k_rg ?_
          refine s_run rfl rfl (r_mv (v := .slice _ _ _) rfl) ?_
          refine s_run rfl rfl (r_mv (v := .int _ _) rfl) ?_
          refine s_run rfl rfl (r_ix1o rfl rfl rfl (by omega) Try.underlying49 sz5) ?_
          refine s_run rfl rfl (r_lr H rfl hcell (by simp) ag5) ?_
          refine s_run rfl rfl (r_rem rfl rfl (by omega)) ?_
          refine k_nil ?_
          refine c_norm ?_
          refine k_b ?_
          refine k_seq ?_
          refine k_rg ?_
          refine s_run rfl rfl (r_eqlT rfl rfl (by omega)) ?_
          refine s_run rfl rfl (r_as (v := .bool _) rfl) ?_
          refine k_nil ?_
          refine c_norm ?_
          refine k_t rfl ?_
          refine k_seq ?_
          refine k_rg ?_
          refine s_run rfl rfl (r_mv (v := .pointer _) rfl) ?_
          refine s_run rfl rfl (r_nc rfl) ?_
          refine s_run rfl rfl (r_fa0 rfl fo114_4) ?_
          refine s_run rfl rfl (r_lo (HR.same H.only) 0 rfl rfl rfl ag53) ?_
          refine s_run rfl rfl (r_mv (v := .int _ _) rfl) ?_
          refine s_run rfl rfl (r_ix1 rfl rfl rfl (by omega) Try.underlying53 sz4) ?_
          refine s_run rfl rfl (r_lv (HR.same H.only) 5 rfl rfl (by assumption) ag4) ?_
          refine k_nil ?_
          refine c_norm ?_
          refine k_t rfl ?_
          refine k_qt 11 mixed (by kernel_rfl) H rfl rfl ?_
          refine q_run rfl rfl (fun _ H => r_mv (v := .pointer _) rfl) ?_
          refine q_run rfl rfl (fun _ H => r_mv (v := .slice _ _ _) rfl) ?_
          refine q_run rfl rfl (fun _ H => r_mv (v := .int _ _) rfl) ?_
          refine q_call rfl rfl (fun _ H => nPart bo co i _ _ _ (by omega)) (ca77 rfl) ?_
          refine q_run rfl rfl (fun _ H => r_mv (v := .pointer _) rfl) ?_
          refine q_run rfl rfl (fun _ H => r_mv (v := .pointer _) rfl) ?_
          refine q_run rfl rfl (fun _ H => r_nc rfl) ?_
          refine q_run rfl rfl (fun _ H => r_fa0 rfl fo114_2) ?_
          refine q_run rfl rfl (fun _ H => r_lo (HR.same H.only) 0 rfl rfl rfl ag25) ?_
          refine q_run rfl rfl (fun _ H => r_mv (v := .int _ _) rfl) ?_
          refine q_call rfl rfl (fun _ H => nPart g.bf g.cf i _ _ _ (by omega)) (ca77 rfl) ?_
          refine q_nil ?_
          intro _ H'; clear H; have H := H'; clear H'
          refine s_cpo (enc := (Value.int .u64)) H 1 rfl rfl rfl rfl (HR.reads 3 rfl (8 * i) 8) (by simp) (by simp; omega) (fun _ => rfl) (by first | omega | (simp; omega)) Try.underlying25 inf22 ?_
          intro _ H'; simp only [List.set_cons_zero, List.set_cons_succ, List.take_succ_cons, List.take_zero, List.drop_succ_cons, List.drop_zero, List.cons_append, List.nil_append, List.append_nil, List.length_cons, List.length_nil, Nat.reduceAdd] at H'; clear H; have H := H'; clear H'
          refine k_nil ?_
          refine b_norm ?_
          refine b_norm ?_
          refine c_norm ?_
          refine k_rg ?_
          refine s_run rfl rfl (r_add rfl rfl (wI (by omega))) ?_
          refine s_run rfl rfl (r_mv (v := .int _ _) rfl) ?_
          refine k_nil ?_
          refine c_round ?_
          refine ⟨_, _, ?_, rfl, k + 1, by omega, rfl, rfl, rfl, rfl, rfl, rfl, rfl, ?_⟩
          · omega
          · rw [er]; simpa [Nv.setPart, Nv.part] using H
        · have g2' : d.pend[i]? = some false := by rw [getE (by omega)]; exact congrArg some (by simpa using g2)
          rw [if_neg g2] at er
          refine k_seq ?_
          refine k_rg ?_
          refine s_run rfl rfl (r_lssT rfl rfl (by omega)) ?_
          refine k_nil ?_
          refine c_norm ?_
          refine k_seq ?_
          refine k_t rfl ?_
          refine k_skip ?_
          refine c_norm ?_
          refine k_seq ?_
          refine k_b ?_
          refine k_seq ?_
          refine k_rg ?_
          refine s_run rfl rfl (r_mv (v := .int _ _) rfl) ?_
          refine s_run rfl rfl (r_ix1 rfl rfl rfl (by omega) Try.underlying42 sz3) ?_
          refine s_run rfl rfl (r_lv H 0 rfl rfl (by assumption) ag3) ?_
          refine s_run rfl rfl (r_as (v := .int _ _) rfl) ?_
          refine s_run rfl rfl (r_as (v := .int _ _) rfl) ?_
          refine k_nil ?_
          refine c_norm ?_
          refine k_seq ?_
          refine k_seq ?_
          refine k_rg ?_
          refine s_run rfl rfl (r_mv (v := .int _ _) rfl) ?_
          refine s_run rfl rfl (r_mv (v := .slice _ _ _) rfl) ?_
          refine s_run rfl rfl (r_len rfl Try.underlying49) ?_
          refine s_run rfl rfl (r_geqF rfl rfl (by omega)) ?_
          refine k_nil ?_
          refine c_norm ?_
          refine k_f rfl ?_
          refine k_skip ?_
          refine c_norm ?_
          refine k_seq ?_
          refine k_rg ?_
          refine s_run rfl rfl (r_mv (v := .slice _ _ _) rfl) ?_
          refine s_run rfl rfl (r_mv (v := .int _ _) rfl) ?_
          refine s_run rfl rfl (r_ix1o rfl rfl rfl (by omega) Try.underlying49 sz5) ?_
          refine s_run rfl rfl (r_lr H rfl hcell (by simp) ag5) ?_
          refine s_run rfl rfl (r_rem rfl rfl (by omega)) ?_
          refine k_nil ?_
          refine c_norm ?_
          refine k_b ?_
          refine k_seq ?_
          refine k_rg ?_
          refine s_run rfl rfl (r_eqlT rfl rfl (by omega)) ?_
          refine s_run rfl rfl (r_as (v := .bool _) rfl) ?_
          refine k_nil ?_
          refine c_norm ?_
          refine k_t rfl ?_
          refine k_seq ?_
          refine k_rg ?_
          refine s_run rfl rfl (r_mv (v := .pointer _) rfl) ?_
          refine s_run rfl rfl (r_nc rfl) ?_
          refine s_run rfl rfl (r_fa0 rfl fo114_4) ?_
          refine s_run rfl rfl (r_lo (HR.same H.only) 0 rfl rfl rfl ag53) ?_
          refine s_run rfl rfl (r_mv (v := .int _ _) rfl) ?_
          refine s_run rfl rfl (r_ix1 rfl rfl rfl (by omega) Try.underlying53 sz4) ?_
          refine s_run rfl rfl (r_lv (HR.same H.only) 5 rfl rfl (by assumption) ag4) ?_
          refine k_nil ?_
          refine c_norm ?_
          refine k_f rfl ?_
          refine k_skip ?_
          refine b_norm ?_
          refine b_norm ?_
          refine c_norm ?_
          refine k_rg ?_
          refine s_run rfl rfl (r_add rfl rfl (wI (by omega))) ?_
          refine s_run rfl rfl (r_mv (v := .int _ _) rfl) ?_
          refine k_nil ?_
          refine c_round ?_
          refine ⟨_, _, ?_, rfl, k + 1, by omega, rfl, rfl, rfl, rfl, rfl, rfl, rfl, ?_⟩
          · omega
          · rw [er]; exact H
      · rw [if_neg g1] at er
        by_cases g2 : c % 3 = 2
        · rw [if_pos g2] at er
          refine k_seq ?_
          refine k_rg ?_
          refine s_run rfl rfl (r_lssT rfl rfl (by omega)) ?_
          refine k_nil ?_
          refine c_norm ?_
          refine k_seq ?_
          refine k_t rfl ?_
          refine k_skip ?_
          refine c_norm ?_
          refine k_seq ?_
          refine k_b ?_
          refine k_seq ?_
          refine k_rg ?_
          refine s_run rfl rfl (r_mv (v := .int _ _) rfl) ?_
          refine s_run rfl rfl (r_ix1 rfl rfl rfl (by omega) Try.underlying42 sz3) ?_
          refine s_run rfl rfl (r_lv H 0 rfl rfl (by assumption) ag3) ?_
          refine s_run rfl rfl (r_as (v := .int _ _) rfl) ?_
          refine s_run rfl rfl (r_as (v := .int _ _) rfl) ?_
          refine k_nil ?_
          refine c_norm ?_
          refine k_seq ?_
          refine k_seq ?_
          refine k_rg ?_
          refine s_run rfl rfl (r_mv (v := .int _ _) rfl) ?_
          refine s_run rfl rfl (r_mv (v := .slice _ _ _) rfl) ?_
          refine s_run rfl rfl (r_len rfl Try.underlying49) ?_
          refine s_run rfl rfl (r_geqF rfl rfl (by omega)) ?_
          refine k_nil ?_
          refine c_norm ?_
          refine k_f rfl ?_
          refine k_skip ?_
          refine c_norm ?_
          refine k_seq ?_
          refine k_rg ?_
          refine s_run rfl rfl (r_mv (v := .slice _ _ _) rfl) ?_
          refine s_run rfl rfl (r_mv (v := .int _ _) rfl) ?_
          refine s_run rfl rfl (r_ix1o rfl rfl rfl (by omega) Try.underlying49 sz5) ?_
          refine s_run rfl rfl (r_lr H rfl hcell (by simp) ag5) ?_
          refine s_run rfl rfl (r_rem rfl rfl (by omega)) ?_
          refine k_nil ?_
          refine c_norm ?_
          refine k_b ?_
          refine k_seq ?_
          refine k_rg ?_
          refine s_run rfl rfl (r_eqlF rfl rfl (by omega)) ?_
          refine s_run rfl rfl (r_as (v := .bool _) rfl) ?_
          refine k_nil ?_
          refine c_norm ?_
          refine k_f rfl ?_
          refine k_seq ?_
          refine k_rg ?_
          refine s_run rfl rfl (r_eqlT rfl rfl (by omega)) ?_
          refine s_run rfl rfl (r_as (v := .bool _) rfl) ?_
          refine k_nil ?_
          refine c_norm ?_
          refine k_t rfl ?_
          refine k_qt 11 mixed (by kernel_rfl) H rfl rfl ?_
          refine q_run rfl rfl (fun _ H => r_mv (v := .pointer _) rfl) ?_
          refine q_run rfl rfl (fun _ H => r_mv (v := .slice _ _ _) rfl) ?_
          refine q_run rfl rfl (fun _ H => r_mv (v := .int _ _) rfl) ?_
          refine q_call rfl rfl (fun _ H => nPart bo co i _ _ _ (by omega)) (ca77 rfl) ?_
          refine q_run rfl rfl (fun _ H => r_mv (v := .pointer _) rfl) ?_
          refine q_run rfl rfl (fun _ H => r_mv (v := .pointer _) rfl) ?_
          refine q_run rfl rfl (fun _ H => r_nc rfl) ?_
          refine q_run rfl rfl (fun _ H => r_fa0 rfl fo114_1) ?_
          refine q_run rfl rfl (fun _ H => r_lo (HR.same H.only) 0 rfl rfl rfl ag25) ?_
          refine q_run rfl rfl (fun _ H => r_mv (v := .int _ _) rfl) ?_
          refine q_call rfl rfl (fun _ H => nPart g.bc g.cc i _ _ _ (by omega)) (ca77 rfl) ?_
          refine q_nil ?_
          intro _ H'; clear H; have H := H'; clear H'
          refine s_cpo (enc := (Value.int .u64)) H 1 rfl rfl rfl rfl (HR.reads 2 rfl (8 * i) 8) (by simp) (by simp; omega) (fun _ => rfl) (by first | omega | (simp; omega)) Try.underlying25 inf22 ?_
          intro _ H'; simp only [List.set_cons_zero, List.set_cons_succ, List.take_succ_cons, List.take_zero, List.drop_succ_cons, List.drop_zero, List.cons_append, List.nil_append, List.append_nil, List.length_cons, List.length_nil, Nat.reduceAdd] at H'; clear H; have H := H'; clear H'
          refine k_nil ?_
          refine b_norm ?_
          refine b_norm ?_
          refine c_norm ?_
          refine k_rg ?_
          refine s_run rfl rfl (r_add rfl rfl (wI (by omega))) ?_
          refine s_run rfl rfl (r_mv (v := .int _ _) rfl) ?_
          refine k_nil ?_
          refine c_round ?_
          refine ⟨_, _, ?_, rfl, k + 1, by omega, rfl, rfl, rfl, rfl, rfl, rfl, rfl, ?_⟩
          · omega
          · rw [er]; simpa [Nv.setPart, Nv.part] using H
        · rw [if_neg g2] at er
          refine k_seq ?_
          refine k_rg ?_
          refine s_run rfl rfl (r_lssT rfl rfl (by omega)) ?_
          refine k_nil ?_
          refine c_norm ?_
          refine k_seq ?_
          refine k_t rfl ?_
          refine k_skip ?_
          refine c_norm ?_
          refine k_seq ?_
          refine k_b ?_
          refine k_seq ?_
          refine k_rg ?_
          refine s_run rfl rfl (r_mv (v := .int _ _) rfl) ?_
          refine s_run rfl rfl (r_ix1 rfl rfl rfl (by omega) Try.underlying42 sz3) ?_
          refine s_run rfl rfl (r_lv H 0 rfl rfl (by assumption) ag3) ?_
          refine s_run rfl rfl (r_as (v := .int _ _) rfl) ?_
          refine s_run rfl rfl (r_as (v := .int _ _) rfl) ?_
          refine k_nil ?_
          refine c_norm ?_
          refine k_seq ?_
          refine k_seq ?_
          refine k_rg ?_
          refine s_run rfl rfl (r_mv (v := .int _ _) rfl) ?_
          refine s_run rfl rfl (r_mv (v := .slice _ _ _) rfl) ?_
          refine s_run rfl rfl (r_len rfl Try.underlying49) ?_
          refine s_run rfl rfl (r_geqF rfl rfl (by omega)) ?_
          refine k_nil ?_
          refine c_norm ?_
          refine k_f rfl ?_
          refine k_skip ?_
          refine c_norm ?_
          refine k_seq ?_
          refine k_rg ?_
          refine s_run rfl rfl (r_mv (v := .slice _ _ _) rfl) ?_
          refine s_run rfl rfl (r_mv (v := .int _ _) rfl) ?_
          refine s_run rfl rfl (r_ix1o rfl rfl rfl (by omega) Try.underlying49 sz5) ?_
          refine s_run rfl rfl (r_lr H rfl hcell (by simp) ag5) ?_
          refine s_run rfl rfl (r_rem rfl rfl (by omega)) ?_
          refine k_nil ?_
          refine c_norm ?_
          refine k_b ?_
          refine k_seq ?_
          refine k_rg ?_
          refine s_run rfl rfl (r_eqlF rfl rfl (by omega)) ?_
          refine s_run rfl rfl (r_as (v := .bool _) rfl) ?_
          refine k_nil ?_
          refine c_norm ?_
          refine k_f rfl ?_
          refine k_seq ?_
          refine k_rg ?_
          refine s_run rfl rfl (r_eqlF rfl rfl (by omega)) ?_
          refine s_run rfl rfl (r_as (v := .bool _) rfl) ?_
          refine k_nil ?_
          refine c_norm ?_
          refine k_f rfl ?_
          refine k_skip ?_
          refine b_norm ?_
          refine b_norm ?_
          refine c_norm ?_
          refine k_rg ?_
          refine s_run rfl rfl (r_add rfl rfl (wI (by omega))) ?_
          refine s_run rfl rfl (r_mv (v := .int _ _) rfl) ?_
          refine k_nil ?_
          refine c_round ?_
          refine ⟨_, _, ?_, rfl, k + 1, by omega, rfl, rfl, rfl, rfl, rfl, rfl, rfl, ?_⟩
          · omega
          · rw [er]; exact H
    · have e := hstop k (.inr (by omega)) (ls.length - k)
      rw [show k + (ls.length - k) = ls.length from by omega] at e
      have hck := hcl k
      rw [e]
      generalize Nv.crashTo d ls cs k = out at *
      refine k_seq ?_
      refine k_rg ?_
      refine s_run rfl rfl (r_lssT rfl rfl (by omega)) ?_
      refine k_nil ?_
      refine c_norm ?_
      refine k_seq ?_
      refine k_t rfl ?_
      refine k_skip ?_
      refine c_norm ?_
      refine k_seq ?_
      refine k_b ?_
      refine k_seq ?_
      refine k_rg ?_
      refine s_run rfl rfl (r_mv (v := .int _ _) rfl) ?_
      refine s_run rfl rfl (r_ix1 rfl rfl rfl (by omega) Try.underlying42 sz3) ?_
      refine s_run rfl rfl (r_lv H 0 rfl rfl (by assumption) ag3) ?_
      refine s_run rfl rfl (r_as (v := .int _ _) rfl) ?_
      refine s_run rfl rfl (r_as (v := .int _ _) rfl) ?_
      refine k_nil ?_
      refine c_norm ?_
      refine k_seq ?_
      refine k_seq ?_
      refine k_rg ?_
      refine s_run rfl rfl (r_mv (v := .int _ _) rfl) ?_
      refine s_run rfl rfl (r_mv (v := .slice _ _ _) rfl) ?_
      refine s_run rfl rfl (r_len rfl Try.underlying49) ?_
      refine s_run rfl rfl (r_geqT rfl rfl (by omega)) ?_
      refine k_nil ?_
      refine c_norm ?_
      refine k_t rfl ?_
      refine k_exit ?_
      refine c_exit ?_
      refine b_miss rfl ?_
      refine c_exit ?_
      refine c_exit ?_
      refine b_hit ?_
      refine c_norm ?_
      refine k_seq ?_
      refine k_rg ?_
      refine s_run rfl rfl (r_mv (v := .slice _ _ _) rfl) ?_
      refine s_call rfl (nload bo co m out _ H.drop.ents hck hm hco) (ca65 rfl) ?_
      rintro e W1 ⟨g', rfl, hg', H'⟩
      refine ⟨_, rfl, ?_⟩
      have H := H.drop.whole H'; clear H'
      refine s_run rfl rfl (r_as (v := .pointer _) rfl) ?_
      refine k_nil ?_
      refine c_norm ?_
      refine k_ret ?_
      refine fin1r (v := .pointer _) rfl rfl ?_
      exact ⟨g', rfl, hg', H⟩
  · obtain rfl : k = ls.length := by omega
    obtain ⟨f, rfl⟩ := live6 h0 h1 h5 h14 h15 h16
    clear h0 h1 h5 h14 h15 h16
    have hck := hcl ls.length
    generalize Nv.crashTo d ls cs ls.length = out at *
    refine k_seq ?_
    refine k_rg ?_
    refine s_run rfl rfl (r_lssF rfl rfl (by omega)) ?_
    refine k_nil ?_
    refine c_norm ?_
    refine k_seq ?_
    refine k_f rfl ?_
    refine k_exit ?_
    refine c_exit ?_
    refine c_exit ?_
    refine b_hit ?_
    refine c_norm ?_
    refine k_seq ?_
    refine k_rg ?_
    refine s_run rfl rfl (r_mv (v := .slice _ _ _) rfl) ?_
    refine s_call rfl (nload bo co m out _ H.drop.ents hck hm hco) (ca65 rfl) ?_
    rintro e W1 ⟨g', rfl, hg', H'⟩
    refine ⟨_, rfl, ?_⟩
    have H := H.drop.whole H'; clear H'
    refine s_run rfl rfl (r_as (v := .pointer _) rfl) ?_
    refine k_nil ?_
    refine c_norm ?_
    refine k_ret ?_
    refine fin1r (v := .pointer _) rfl rfl ?_
    exact ⟨g', rfl, hg', H⟩
end Go.Proofs.Ytmekhdclnhhhbaa
end

section
namespace Go.Proofs.Ytmekhdclnhhhbaa
open Go.RowKit
set_option linter.unusedSimpArgs false
set_option linter.unusedVariables false
def fuseRel (d : Nv.D) (rf : Int) : Prop := (d.armed = true ∧ rf = d.fuse ∧ 0 ≤ rf ∧ rf ≤ 9223372036854775807) ∨ (d.armed = false ∧ rf = -1)
structure RefS where
  A0 : Option Addr
  c0 : Nat
  A1 : Option Addr
  c1 : Nat
  A2 : Option Addr
  c2 : Nat
  A3 : Option Addr
  c3 : Nat
  A4 : Option Addr
  c4 : Nat
  rf : Int
def refCells (s : RefS) (d : Nv.D) (m : Nat) : List Value := [.slice s.A0 m s.c0, .slice s.A1 m s.c1, .slice s.A2 m s.c2, .slice s.A3 m s.c3, .slice s.A4 m s.c4, .int .i64 d.steps, .int .i64 s.rf, .bool d.dead]
/-- the document's device that is d, out of blocks that are not of F -/
structure RefOk (w : World) (F : List Nat) (s : RefS) (d : Nv.D) (m : Nat) : Prop where
  now : Sees (Value.int .u64) w F s.A0 d.cache
  last : Sees (Value.int .u64) w F s.A1 d.last
  wait : Sees (Value.int .u64) w F s.A2 d.fl
  dirty : Sees Value.bool w F s.A3 d.dirty
  pend : Sees Value.bool w F s.A4 d.pend
  fuse : fuseRel d s.rf
  ok : Nv.Ok d m
theorem RefOk.later {w W : World} {F G : List Nat} {s : RefS} {d : Nv.D} {m : Nat} (h : RefOk w F s d m) (hO : Only G w W) (hG : ∀ i ∈ G, i ∈ F) : RefOk W F s d m :=
  ⟨h.now.later hO hG, h.last.later hO hG, h.wait.later hO hG, h.dirty.later hO hG, h.pend.later hO hG, h.fuse, h.ok⟩
theorem RefOk.killed {w : World} {F : List Nat} {s : RefS} {d : Nv.D} {m : Nat} (h : RefOk w F s d m) : RefOk w F s (Nv.killed d) m :=
  ⟨h.now, h.last, h.wait, h.dirty, h.pend, h.fuse, h.ok.killed⟩
end Go.Proofs.Ytmekhdclnhhhbaa
end

section
namespace Go.Proofs.Ytmekhdclnhhhbaa
open Go.RowKit
set_option linter.unusedSimpArgs false
set_option linter.unusedVariables false
theorem refE (s : RefS) (d : Nv.D) (m : Nat) : refCells s d m = [.slice s.A0 m s.c0, .slice s.A1 m s.c1, .slice s.A2 m s.c2, .slice s.A3 m s.c3, .slice s.A4 m s.c4, .int .i64 d.steps, .int .i64 s.rf, .bool d.dead] := rfl
end Go.Proofs.Ytmekhdclnhhhbaa
end

section
namespace Go.Proofs.Ytmekhdclnhhhbaa
open Go.RowKit
set_option linter.unusedSimpArgs false
set_option linter.unusedVariables false
theorem rGet (A : Option Addr) (m c : Nat) (a : Int) (zs : List Int) (w : World) (hz : Sees (Value.int .u64) w [] A zs) (hl : zs.length = 8 * m) (hm : m ≤ 100000) :
    Calls Try.prog 92 [.slice A m c, .int .i64 a].toArray w fun e w' => e = .returned (.int .u64 (Nv.get zs a)) ∧ Only [] w w' := by
  have H := Heap.nil w
  unfold Nv.get
  by_cases hin : 0 ≤ a ∧ a < (zs.length : Int)
  · rw [if_pos hin]
    obtain ⟨i, rfl⟩ : ∃ i : Nat, a = (i : Int) := ⟨a.toNat, by omega⟩
    rw [Int.toNat_natCast]
    obtain ⟨b, o, rfl, _, hr⟩ := hz (by omega)
    have hc := hr i _ (getE (by omega))
    have e1 : o + i / 8 * 8 + i % 8 = o + i := by omega
    refine k_in (N := 22) Try.func92 rfl rfl rfl ?_
    refine k_seq ?_
    refine k_rg ?_
    refine s_run rfl rfl (r_as (v := .int _ _) rfl) ?_
    refine k_nil ?_
    refine c_norm ?_
    refine k_seq ?_
    refine k_seq ?_
    refine k_rg ?_
    refine s_run rfl rfl (r_mv (v := .int _ _) rfl) ?_
    refine s_run rfl rfl (r_lssF rfl rfl (by omega)) ?_
    refine s_run rfl rfl (r_mv (v := .bool _) rfl) ?_
    refine s_run rfl (g_on 7 (by kernel_rfl) rfl) (r_mv (v := .int _ _) rfl) ?_
    refine s_run rfl (g_on 7 (by kernel_rfl) rfl) (r_mv (v := .slice _ _ _) rfl) ?_
    refine s_run rfl (g_on 7 (by kernel_rfl) rfl) (r_len rfl Try.underlying52) ?_
    refine s_run rfl (g_on 7 (by kernel_rfl) rfl) (r_mul rfl rfl (wI (by omega))) ?_
    refine s_run rfl (g_on 7 (by kernel_rfl) rfl) (r_geqF rfl rfl (by omega)) ?_
    refine s_run rfl rfl (r_pkF (v := .bool _) rfl rfl) ?_
    refine k_nil ?_
    refine c_norm ?_
    refine k_f rfl ?_
    refine k_skip ?_
    refine c_norm ?_
    refine k_seq ?_
    refine k_rg ?_
    refine s_run rfl rfl (r_mv (v := .slice _ _ _) rfl) ?_
    refine s_run rfl rfl (r_mv (v := .int _ _) rfl) ?_
    refine s_run rfl rfl (r_quo rfl rfl (by omega) (wI (by omega))) ?_
    refine s_run rfl rfl (r_mv (v := .int _ _) rfl) ?_
    refine s_run rfl rfl (r_rem rfl rfl (by omega)) ?_
    refine s_run rfl rfl (r_ix (i := i / 8) rfl rfl (by omega) (by omega) Try.underlying52 sz124) ?_
    refine s_run rfl rfl (r_ia1 (i := i % 8) rfl rfl (by omega) (by omega) Try.underlying124 sz22) ?_
    refine s_run rfl rfl (r_lr H (i := o + i) (by rw [← e1]; rfl) hc (by simp) ag22) ?_
    refine s_run rfl rfl (r_as (v := .int _ _) rfl) ?_
    refine k_nil ?_
    refine c_norm ?_
    refine k_ret ?_
    refine fin1r (v := .int _ _) rfl rfl ?_
    exact ⟨rfl, H.only⟩
  · rw [if_neg hin]
    by_cases h1 : a < 0
    · refine k_in (N := 22) Try.func92 rfl rfl rfl ?_
      refine k_seq ?_
      refine k_rg ?_
      refine s_run rfl rfl (r_as (v := .int _ _) rfl) ?_
      refine k_nil ?_
      refine c_norm ?_
      refine k_seq ?_
      refine k_seq ?_
      refine k_rg ?_
      refine s_run rfl rfl (r_mv (v := .int _ _) rfl) ?_
      refine s_run rfl rfl (r_lssT rfl rfl (by omega)) ?_
      refine s_run rfl rfl (r_mv (v := .bool _) rfl) ?_
      refine s_off rfl (g_off 7 (by kernel_rfl) rfl rfl) ?_
      refine s_off rfl (g_off 7 (by kernel_rfl) rfl rfl) ?_
      refine s_off rfl (g_off 7 (by kernel_rfl) rfl rfl) ?_
      refine s_off rfl (g_off 7 (by kernel_rfl) rfl rfl) ?_
      refine s_off rfl (g_off 7 (by kernel_rfl) rfl rfl) ?_
      refine s_run rfl rfl (r_pkT (v := .bool _) rfl rfl) ?_
      refine k_nil ?_
      refine c_norm ?_
      refine k_t rfl ?_
      refine k_seq ?_
      refine k_rg ?_
      refine s_run rfl rfl (r_as (v := .int _ _) rfl) ?_
      refine k_nil ?_
      refine c_norm ?_
      refine k_ret ?_
      refine c_ret ?_
      refine fin1r (v := .int _ _) rfl rfl ?_
      exact ⟨rfl, H.only⟩
    · refine k_in (N := 22) Try.func92 rfl rfl rfl ?_
      refine k_seq ?_
      refine k_rg ?_
      refine s_run rfl rfl (r_as (v := .int _ _) rfl) ?_
      refine k_nil ?_
      refine c_norm ?_
      refine k_seq ?_
      refine k_seq ?_
      refine k_rg ?_
      refine s_run rfl rfl (r_mv (v := .int _ _) rfl) ?_
      refine s_run rfl rfl (r_lssF rfl rfl (by omega)) ?_
      refine s_run rfl rfl (r_mv (v := .bool _) rfl) ?_
      refine s_run rfl (g_on 7 (by kernel_rfl) rfl) (r_mv (v := .int _ _) rfl) ?_
      refine s_run rfl (g_on 7 (by kernel_rfl) rfl) (r_mv (v := .slice _ _ _) rfl) ?_
      refine s_run rfl (g_on 7 (by kernel_rfl) rfl) (r_len rfl Try.underlying52) ?_
      refine s_run rfl (g_on 7 (by kernel_rfl) rfl) (r_mul rfl rfl (wI (by omega))) ?_
      refine s_run rfl (g_on 7 (by kernel_rfl) rfl) (r_geqT rfl rfl (by omega)) ?_
      refine s_run rfl rfl (r_pkF (v := .bool _) rfl rfl) ?_
      refine k_nil ?_
      refine c_norm ?_
      refine k_t rfl ?_
      refine k_seq ?_
      refine k_rg ?_
      refine s_run rfl rfl (r_as (v := .int _ _) rfl) ?_
      refine k_nil ?_
      refine c_norm ?_
      refine k_ret ?_
      refine c_ret ?_
      refine fin1r (v := .int _ _) rfl rfl ?_
      exact ⟨rfl, H.only⟩
end Go.Proofs.Ytmekhdclnhhhbaa
end

section
namespace Go.Proofs.Ytmekhdclnhhhbaa
open Go.RowKit
set_option linter.unusedSimpArgs false
set_option linter.unusedVariables false
theorem reads_part {w : World} {b o : Nat} {xs : List Int} {m i : Nat} (h : Reads (Value.int .u64) w b o xs) (hl : xs.length = 8 * m) (hi : i < m) : Reads (Value.int .u64) w b (o + i * 8) (Nv.part xs i) := by
  intro j z hz
  have hj : j < 8 := by have := (List.getElem?_eq_some_iff.1 hz).1; rw [Nv.length_part (by omega)] at this; omega
  unfold Nv.part at hz
  rw [List.getElem?_take_of_lt hj, List.getElem?_drop] at hz
  have := h _ _ hz
  rw [show o + i * 8 + j = o + (8 * i + j) from by omega]; exact this
end Go.Proofs.Ytmekhdclnhhhbaa
end

section
namespace Go.Proofs.Ytmekhdclnhhhbaa
open Go.RowKit
set_option linter.unusedSimpArgs false
set_option linter.unusedVariables false
end Go.Proofs.Ytmekhdclnhhhbaa
end

section
namespace Go.Proofs.Ytmekhdclnhhhbaa
open Go.RowKit
set_option linter.unusedSimpArgs false
set_option linter.unusedVariables false
theorem RefOk.news {w : World} {F G : List Nat} {s : RefS} {d : Nv.D} {m : Nat} (h : RefOk w F s d m) (hG : ∀ i ∈ G, i ∈ F ∨ w.heap.size ≤ i) : RefOk w G s d m :=
  ⟨h.now.news hG, h.last.news hG, h.wait.news hG, h.dirty.news hG, h.pend.news hG, h.fuse, h.ok⟩
end Go.Proofs.Ytmekhdclnhhhbaa
end

section
namespace Go.Proofs.Ytmekhdclnhhhbaa
open Go.RowKit
set_option linter.unusedSimpArgs false
set_option linter.unusedVariables false
theorem rDirty (s : RefS) (d : Nv.D) (m : Nat) (w : World) (hz : Sees Value.bool w [] s.A3 d.dirty) (hl : d.dirty.length = m) (hm : m ≤ 100000) :
    Calls Try.prog 91 [.agg (refCells s d m).toArray].toArray w fun e w' => ∃ A b c, e = .returned (.slice A (Nv.dirtyTo d.dirty m).length c) ∧ ((Nv.dirtyTo d.dirty m).length ≠ 0 → A = some ⟨b, 0, none⟩) ∧ Heap w [] [vec (Value.int .i64) b (Nv.dirtyTo d.dirty m) 3] w' := by
  have H := Heap.nil w
  rw [refE]
  refine k_in (N := 22) Try.func91 rfl rfl rfl ?_
  refine k_seq ?_
  refine k_rg ?_
  refine s_box H rfl rfl ?_
  intro p1 _ H'; clear H; have H := H'; clear H'
  refine s_run rfl rfl (r_as (v := .slice _ _ _) rfl) ?_
  refine k_nil ?_
  refine c_norm ?_
  refine k_seq ?_
  refine k_rg ?_
  refine s_run rfl rfl (r_as (v := .slice _ _ _) rfl) ?_
  refine k_nil ?_
  refine c_norm ?_
  refine k_seq ?_
  refine k_seq ?_
  refine k_rg ?_
  refine s_run rfl rfl (r_as (v := .int _ _) rfl) ?_
  refine k_nil ?_
  refine c_norm ?_
  refine k_b ?_
  refine k_loop (fun q f W => ∃ (k : Nat) (A : Option Addr) (c : Nat), k ≤ m ∧ q = m - k ∧ f 1 = ptr p1 ∧ f 3 = .slice A (Nv.dirtyTo d.dirty k).length c ∧ f 4 = .int .i64 k ∧ Heap w [] [ownN 1 (.slice A (Nv.dirtyTo d.dirty k).length c) (Nv.dirtyTo d.dirty k).length ((Nv.dirtyTo d.dirty k).map (Value.int .i64)) 3, blk p1 [.slice s.A0 m s.c0, .slice s.A1 m s.c1, .slice s.A2 m s.c2, .slice s.A3 m s.c3, .slice s.A4 m s.c4, .int .i64 d.steps, .int .i64 s.rf, .bool d.dead] 55] W) m ⟨0, none, 0, by omega, rfl, rfl, rfl, rfl, H.own_nil 1 3⟩ ?_
  clear H
  rintro q f W ⟨k, A, c, hk, rfl, h1, h3, h4, H⟩
  have hlen := dirtyTo_len d.dirty k
  by_cases hlt : k < m
  · obtain ⟨bd, od, ed, _, hrd⟩ := hz (by omega)
    have hcd := hrd k _ (getE (by omega))
    simp only [ed] at H
    obtain ⟨f, rfl⟩ := live3 h1 h3 h4
    clear h1 h3 h4
    by_cases hv : d.dirty.getD k default = true
    · rw [hv] at hcd
      have e : Nv.dirtyTo d.dirty (k + 1) = Nv.dirtyTo d.dirty k ++ [(k : Int)] := by rw [Nv.dirtyTo]; exact if_pos hv
      have el : (Nv.dirtyTo d.dirty (k + 1)).length = (Nv.dirtyTo d.dirty k).length + 1 := by rw [e]; simp
      refine k_seq ?_
      refine k_seq ?_
      refine k_rg ?_
      refine s_run rfl rfl (r_mv (v := .int _ _) rfl) ?_
      refine s_run rfl rfl (r_fa0 rfl fo55_3) ?_
      refine s_run rfl rfl (r_lo H 1 rfl rfl rfl ag53) ?_
      refine s_run rfl rfl (r_len rfl Try.underlying53) ?_
      refine s_run rfl rfl (r_lssT rfl rfl (by omega)) ?_
      refine k_nil ?_
      refine c_norm ?_
      refine k_t rfl ?_
      refine k_skip ?_
      refine c_norm ?_
      refine k_seq ?_
      refine k_b ?_
      refine k_seq ?_
      refine k_rg ?_
      refine s_run rfl rfl (r_fa0 rfl fo55_3) ?_
      refine s_run rfl rfl (r_lo H 1 rfl rfl rfl ag53) ?_
      refine s_run rfl rfl (r_mv (v := .int _ _) rfl) ?_
      refine s_run rfl rfl (r_ix1o rfl rfl rfl (by omega) Try.underlying53 sz4) ?_
      refine s_run rfl rfl (r_lr H rfl hcd (by simp) ag4) ?_
      refine k_nil ?_
      refine c_norm ?_
      refine k_t rfl ?_
      refine k_rg ?_
      refine s_run rfl rfl (r_mv (v := .slice _ _ _) rfl) ?_
      refine s_run rfl rfl (r_mv (v := .int _ _) rfl) ?_
      refine s_app1 (enc := (Value.int .i64)) H 0 rfl rfl rfl rfl rfl rfl rfl (by omega) Try.underlying42 inf3 rfl ?_
      intro _ An cn _ H'; simp only [List.set_cons_zero, List.set_cons_succ, List.take_succ_cons, List.take_zero, List.drop_succ_cons, List.drop_zero, List.cons_append, List.nil_append, List.append_nil, List.length_cons, List.length_nil, Nat.reduceAdd] at H'; clear H; have H := H'; clear H'
      refine s_run rfl rfl (r_as (v := .slice _ _ _) rfl) ?_
      refine k_nil ?_
      refine b_norm ?_
      refine c_norm ?_
      refine k_rg ?_
      refine s_run rfl rfl (r_mv (v := .int _ _) rfl) ?_
      refine s_run rfl rfl (r_add rfl rfl (wI (by omega))) ?_
      refine s_run rfl rfl (r_as (v := .int _ _) rfl) ?_
      refine k_nil ?_
      refine c_round ?_
      rw [← e, ← el] at H
      refine ⟨_, _, ?_, rfl, k + 1, An, cn, by omega, rfl, rfl, ?_, rfl, ?_⟩
      · omega
      · rw [el]; rfl
      · rw [ed]; exact H
    · have hv2 : d.dirty.getD k default = false := by simpa using hv
      rw [hv2] at hcd
      have e : Nv.dirtyTo d.dirty (k + 1) = Nv.dirtyTo d.dirty k := by rw [Nv.dirtyTo]; exact if_neg hv
      refine k_seq ?_
      refine k_seq ?_
      refine k_rg ?_
      refine s_run rfl rfl (r_mv (v := .int _ _) rfl) ?_
      refine s_run rfl rfl (r_fa0 rfl fo55_3) ?_
      refine s_run rfl rfl (r_lo H 1 rfl rfl rfl ag53) ?_
      refine s_run rfl rfl (r_len rfl Try.underlying53) ?_
      refine s_run rfl rfl (r_lssT rfl rfl (by omega)) ?_
      refine k_nil ?_
      refine c_norm ?_
      refine k_t rfl ?_
      refine k_skip ?_
      refine c_norm ?_
      refine k_seq ?_
      refine k_b ?_
      refine k_seq ?_
      refine k_rg ?_
      refine s_run rfl rfl (r_fa0 rfl fo55_3) ?_
      refine s_run rfl rfl (r_lo H 1 rfl rfl rfl ag53) ?_
      refine s_run rfl rfl (r_mv (v := .int _ _) rfl) ?_
      refine s_run rfl rfl (r_ix1o rfl rfl rfl (by omega) Try.underlying53 sz4) ?_
      refine s_run rfl rfl (r_lr H rfl hcd (by simp) ag4) ?_
      refine k_nil ?_
      refine c_norm ?_
      refine k_f rfl ?_
      refine k_skip ?_
      refine b_norm ?_
      refine c_norm ?_
      refine k_rg ?_
      refine s_run rfl rfl (r_mv (v := .int _ _) rfl) ?_
      refine s_run rfl rfl (r_add rfl rfl (wI (by omega))) ?_
      refine s_run rfl rfl (r_as (v := .int _ _) rfl) ?_
      refine k_nil ?_
      refine c_round ?_
      rw [← e] at H
      refine ⟨_, _, ?_, rfl, k + 1, A, c, by omega, rfl, rfl, ?_, rfl, ?_⟩
      · omega
      · rw [e]; rfl
      · rw [ed]; exact H
  · obtain rfl : k = m := by omega
    obtain ⟨f, rfl⟩ := live3 h1 h3 h4
    clear h1 h3 h4
    refine k_seq ?_
    refine k_seq ?_
    refine k_rg ?_
    refine s_run rfl rfl (r_mv (v := .int _ _) rfl) ?_
    refine s_run rfl rfl (r_fa0 rfl fo55_3) ?_
    refine s_run rfl rfl (r_lo H 1 rfl rfl rfl ag53) ?_
    refine s_run rfl rfl (r_len rfl Try.underlying53) ?_
    refine s_run rfl rfl (r_lssF rfl rfl (by omega)) ?_
    refine k_nil ?_
    refine c_norm ?_
    refine k_f rfl ?_
    refine k_exit ?_
    refine c_exit ?_
    refine c_exit ?_
    refine b_hit ?_
    refine c_norm ?_
    refine k_seq ?_
    refine k_rg ?_
    refine s_run rfl rfl (r_mv (v := .slice _ _ _) rfl) ?_
    refine s_run rfl rfl (r_as (v := .slice _ _ _) rfl) ?_
    refine k_nil ?_
    refine c_norm ?_
    refine k_ret ?_
    refine fin1r (v := .slice _ _ _) rfl rfl ?_
    have H2 : Heap w [] [ownN 1 (.slice A (Nv.dirtyTo d.dirty k).length c) (Nv.dirtyTo d.dirty k).length ((Nv.dirtyTo d.dirty k).map (Value.int .i64)) 3] W := Heap.drops (L := [_]) H
    obtain ⟨b, hb, H3⟩ := own_vec0 H2
    exact ⟨A, b, c, rfl, hb, H3⟩
theorem same_no {xs ys : List Int} {k : Nat} (h : ¬ xs.getD k default = ys.getD k default) : Nv.same xs ys = false := by
  rw [Nv.same, decide_eq_false (fun e => h (by rw [e]))]
theorem same_len {xs ys : List Int} (h : ¬ xs.length = ys.length) : Nv.same xs ys = false := by
  rw [Nv.same, decide_eq_false (fun e => h (by rw [e]))]
theorem rInts (A B : Option Addr) (n n2 c c2 : Nat) (xs ys : List Int) (w : World) (hx : Sees (Value.int .i64) w [] A xs) (hy : Sees (Value.int .i64) w [] B ys) (lx : xs.length = n) (ly : ys.length = n2) (hn : n ≤ 1000000 ∧ n2 ≤ 1000000) :
    Calls Try.prog 90 [.slice A n c, .slice B n2 c2].toArray w fun e w' => e = .returned (.bool (Nv.same xs ys)) ∧ Only [] w w' := by
  have H := Heap.nil w
  by_cases hne : n = n2
  · subst hne
    refine k_in (N := 26) Try.func90 rfl rfl rfl ?_
    refine k_seq ?_
    refine k_rg ?_
    refine s_run rfl rfl (r_as (v := .bool _) rfl) ?_
    refine k_nil ?_
    refine c_norm ?_
    refine k_seq ?_
    refine k_seq ?_
    refine k_rg ?_
    refine s_run rfl rfl (r_mv (v := .slice _ _ _) rfl) ?_
    refine s_run rfl rfl (r_len rfl Try.underlying42) ?_
    refine s_run rfl rfl (r_mv (v := .slice _ _ _) rfl) ?_
    refine s_run rfl rfl (r_len rfl Try.underlying42) ?_
    refine s_run rfl rfl (r_neqF rfl rfl (by omega)) ?_
    refine k_nil ?_
    refine c_norm ?_
    refine k_f rfl ?_
    refine k_skip ?_
    refine c_norm ?_
    refine k_seq ?_
    refine k_seq ?_
    refine k_rg ?_
    refine s_run rfl rfl (r_as (v := .int _ _) rfl) ?_
    refine k_nil ?_
    refine c_norm ?_
    refine k_b ?_
    refine k_loop (fun m f W => ∃ k : Nat, k ≤ n ∧ m = n - k ∧ (∀ i, i < k → xs.getD i default = ys.getD i default) ∧ f 0 = .slice A n c ∧ f 1 = .slice B n c2 ∧ f 5 = .int .i64 k ∧ Heap w [] [] W) n ⟨0, by omega, by omega, by omega, rfl, rfl, rfl, H⟩ ?_
    clear H
    rintro m f W ⟨k, hk, rfl, hall, h0, h1, h2, H⟩
    by_cases hlt : k < n
    · obtain ⟨b, o, rfl, _, hrx⟩ := hx (by omega)
      obtain ⟨b2, o2, rfl, _, hry⟩ := hy (by omega)
      obtain ⟨f, rfl⟩ := live3 h0 h1 h2
      clear h0 h1 h2
      have cx := hrx k _ (getE (by omega))
      have cy := hry k _ (getE (by omega))
      by_cases he : xs.getD k default = ys.getD k default
      · refine k_seq ?_
        refine k_seq ?_
        refine k_rg ?_
        refine s_run rfl rfl (r_mv (v := .int _ _) rfl) ?_
        refine s_run rfl rfl (r_mv (v := .slice _ _ _) rfl) ?_
        refine s_run rfl rfl (r_len rfl Try.underlying42) ?_
        refine s_run rfl rfl (r_lssT rfl rfl (by omega)) ?_
        refine k_nil ?_
        refine c_norm ?_
        refine k_t rfl ?_
        refine k_skip ?_
        refine c_norm ?_
        refine k_seq ?_
        refine k_b ?_
        refine k_seq ?_
        refine k_q mixed (by kernel_rfl) H ?_
        refine q_run rfl rfl (fun _ H => r_mv (v := .slice _ _ _) rfl) ?_
        refine q_run rfl rfl (fun _ H => r_mv (v := .int _ _) rfl) ?_
        refine q_run rfl rfl (fun _ H => r_ix1o rfl rfl rfl (by omega) Try.underlying42 sz3) ?_
        refine q_run rfl rfl (fun _ H => r_lr H rfl cx (by simp) ag3) ?_
        refine q_run rfl rfl (fun _ H => r_mv (v := .slice _ _ _) rfl) ?_
        refine q_run rfl rfl (fun _ H => r_mv (v := .int _ _) rfl) ?_
        refine q_run rfl rfl (fun _ H => r_ix1o rfl rfl rfl (by omega) Try.underlying42 sz3) ?_
        refine q_run rfl rfl (fun _ H => r_lr H rfl cy (by simp) ag3) ?_
        refine q_run rfl rfl (fun _ H => r_neqF rfl rfl (by omega)) ?_
        refine q_nil ?_
        intro _ H'; clear H; have H := H'; clear H'
        refine c_norm ?_
        refine k_f rfl ?_
        refine k_skip ?_
        refine b_norm ?_
        refine c_norm ?_
        refine k_rg ?_
        refine s_run rfl rfl (r_mv (v := .int _ _) rfl) ?_
        refine s_run rfl rfl (r_add rfl rfl (wI (by omega))) ?_
        refine s_run rfl rfl (r_as (v := .int _ _) rfl) ?_
        refine k_nil ?_
        refine c_round ?_
        refine ⟨_, _, ?_, rfl, k + 1, by omega, rfl, fun i hi => ?_, rfl, rfl, rfl, H⟩
        · omega
        · by_cases hik : i = k
          · subst hik; exact he
          · exact hall i (by omega)
      · refine k_seq ?_
        refine k_seq ?_
        refine k_rg ?_
        refine s_run rfl rfl (r_mv (v := .int _ _) rfl) ?_
        refine s_run rfl rfl (r_mv (v := .slice _ _ _) rfl) ?_
        refine s_run rfl rfl (r_len rfl Try.underlying42) ?_
        refine s_run rfl rfl (r_lssT rfl rfl (by omega)) ?_
        refine k_nil ?_
        refine c_norm ?_
        refine k_t rfl ?_
        refine k_skip ?_
        refine c_norm ?_
        refine k_seq ?_
        refine k_b ?_
        refine k_seq ?_
        refine k_q mixed (by kernel_rfl) H ?_
        refine q_run rfl rfl (fun _ H => r_mv (v := .slice _ _ _) rfl) ?_
        refine q_run rfl rfl (fun _ H => r_mv (v := .int _ _) rfl) ?_
        refine q_run rfl rfl (fun _ H => r_ix1o rfl rfl rfl (by omega) Try.underlying42 sz3) ?_
        refine q_run rfl rfl (fun _ H => r_lr H rfl cx (by simp) ag3) ?_
        refine q_run rfl rfl (fun _ H => r_mv (v := .slice _ _ _) rfl) ?_
        refine q_run rfl rfl (fun _ H => r_mv (v := .int _ _) rfl) ?_
        refine q_run rfl rfl (fun _ H => r_ix1o rfl rfl rfl (by omega) Try.underlying42 sz3) ?_
        refine q_run rfl rfl (fun _ H => r_lr H rfl cy (by simp) ag3) ?_
        refine q_run rfl rfl (fun _ H => r_neqT rfl rfl (by omega)) ?_
        refine q_nil ?_
        intro _ H'; clear H; have H := H'; clear H'
        refine c_norm ?_
        refine k_t rfl ?_
        refine k_seq ?_
        refine k_rg ?_
        refine s_run rfl rfl (r_as (v := .bool _) rfl) ?_
        refine k_nil ?_
        refine c_norm ?_
        refine k_ret ?_
        refine b_ret ?_
        refine c_ret ?_
        refine c_ret ?_
        refine b_ret ?_
        refine c_ret ?_
        refine fin1r (v := .bool _) rfl rfl ?_
        exact ⟨by rw [same_no he], H.only⟩
    · obtain ⟨f, rfl⟩ := live3 h0 h1 h2
      clear h0 h1 h2
      obtain rfl : k = n := by omega
      refine k_seq ?_
      refine k_seq ?_
      refine k_rg ?_
      refine s_run rfl rfl (r_mv (v := .int _ _) rfl) ?_
      refine s_run rfl rfl (r_mv (v := .slice _ _ _) rfl) ?_
      refine s_run rfl rfl (r_len rfl Try.underlying42) ?_
      refine s_run rfl rfl (r_lssF rfl rfl (by omega)) ?_
      refine k_nil ?_
      refine c_norm ?_
      refine k_f rfl ?_
      refine k_exit ?_
      refine c_exit ?_
      refine c_exit ?_
      refine b_hit ?_
      refine c_norm ?_
      refine k_seq ?_
      refine k_rg ?_
      refine s_run rfl rfl (r_as (v := .bool _) rfl) ?_
      refine k_nil ?_
      refine c_norm ?_
      refine k_ret ?_
      refine fin1r (v := .bool _) rfl rfl ?_
      exact ⟨by rw [Nv.same, decide_eq_true (all_upto hall lx ly)], H.only⟩
  · refine k_in (N := 26) Try.func90 rfl rfl rfl ?_
    refine k_seq ?_
    refine k_rg ?_
    refine s_run rfl rfl (r_as (v := .bool _) rfl) ?_
    refine k_nil ?_
    refine c_norm ?_
    refine k_seq ?_
    refine k_seq ?_
    refine k_rg ?_
    refine s_run rfl rfl (r_mv (v := .slice _ _ _) rfl) ?_
    refine s_run rfl rfl (r_len rfl Try.underlying42) ?_
    refine s_run rfl rfl (r_mv (v := .slice _ _ _) rfl) ?_
    refine s_run rfl rfl (r_len rfl Try.underlying42) ?_
    refine s_run rfl rfl (r_neqT rfl rfl (by omega)) ?_
    refine k_nil ?_
    refine c_norm ?_
    refine k_t rfl ?_
    refine k_seq ?_
    refine k_rg ?_
    refine s_run rfl rfl (r_as (v := .bool _) rfl) ?_
    refine k_nil ?_
    refine c_norm ?_
    refine k_ret ?_
    refine c_ret ?_
    refine fin1r (v := .bool _) rfl rfl ?_
    exact ⟨by rw [same_len (by omega)], H.only⟩
theorem rSame (A B : Option Addr) (n n2 c c2 : Nat) (xs ys : List Int) (w : World) (hx : Sees (Value.int .u64) w [] A xs) (hy : Sees (Value.int .u64) w [] B ys) (lx : xs.length = n) (ly : ys.length = n2) (hn : n ≤ 1000000 ∧ n2 ≤ 1000000) :
    Calls Try.prog 42 [.slice A n c, .slice B n2 c2].toArray w fun e w' => e = .returned (.bool (Nv.same xs ys)) ∧ Only [] w w' := by
  have H := Heap.nil w
  by_cases hne : n = n2
  · subst hne
    refine k_in (N := 26) Try.func42 rfl rfl rfl ?_
    refine k_seq ?_
    refine k_rg ?_
    refine s_run rfl rfl (r_as (v := .bool _) rfl) ?_
    refine k_nil ?_
    refine c_norm ?_
    refine k_seq ?_
    refine k_seq ?_
    refine k_rg ?_
    refine s_run rfl rfl (r_mv (v := .slice _ _ _) rfl) ?_
    refine s_run rfl rfl (r_len rfl Try.underlying25) ?_
    refine s_run rfl rfl (r_mv (v := .slice _ _ _) rfl) ?_
    refine s_run rfl rfl (r_len rfl Try.underlying25) ?_
    refine s_run rfl rfl (r_neqF rfl rfl (by omega)) ?_
    refine k_nil ?_
    refine c_norm ?_
    refine k_f rfl ?_
    refine k_skip ?_
    refine c_norm ?_
    refine k_seq ?_
    refine k_seq ?_
    refine k_rg ?_
    refine s_run rfl rfl (r_as (v := .int _ _) rfl) ?_
    refine k_nil ?_
    refine c_norm ?_
    refine k_b ?_
    refine k_loop (fun m f W => ∃ k : Nat, k ≤ n ∧ m = n - k ∧ (∀ i, i < k → xs.getD i default = ys.getD i default) ∧ f 0 = .slice A n c ∧ f 1 = .slice B n c2 ∧ f 5 = .int .i64 k ∧ Heap w [] [] W) n ⟨0, by omega, by omega, by omega, rfl, rfl, rfl, H⟩ ?_
    clear H
    rintro m f W ⟨k, hk, rfl, hall, h0, h1, h2, H⟩
    by_cases hlt : k < n
    · obtain ⟨b, o, rfl, _, hrx⟩ := hx (by omega)
      obtain ⟨b2, o2, rfl, _, hry⟩ := hy (by omega)
      obtain ⟨f, rfl⟩ := live3 h0 h1 h2
      clear h0 h1 h2
      have cx := hrx k _ (getE (by omega))
      have cy := hry k _ (getE (by omega))
      by_cases he : xs.getD k default = ys.getD k default
      · refine k_seq ?_
        refine k_seq ?_
        refine k_rg ?_
        refine s_run rfl rfl (r_mv (v := .int _ _) rfl) ?_
        refine s_run rfl rfl (r_mv (v := .slice _ _ _) rfl) ?_
        refine s_run rfl rfl (r_len rfl Try.underlying25) ?_
        refine s_run rfl rfl (r_lssT rfl rfl (by omega)) ?_
        refine k_nil ?_
        refine c_norm ?_
        refine k_t rfl ?_
        refine k_skip ?_
        refine c_norm ?_
        refine k_seq ?_
        refine k_b ?_
        refine k_seq ?_
        refine k_q mixed (by kernel_rfl) H ?_
        refine q_run rfl rfl (fun _ H => r_mv (v := .slice _ _ _) rfl) ?_
        refine q_run rfl rfl (fun _ H => r_mv (v := .int _ _) rfl) ?_
        refine q_run rfl rfl (fun _ H => r_ix1o rfl rfl rfl (by omega) Try.underlying25 sz22) ?_
        refine q_run rfl rfl (fun _ H => r_lr H rfl cx (by simp) ag22) ?_
        refine q_run rfl rfl (fun _ H => r_mv (v := .slice _ _ _) rfl) ?_
        refine q_run rfl rfl (fun _ H => r_mv (v := .int _ _) rfl) ?_
        refine q_run rfl rfl (fun _ H => r_ix1o rfl rfl rfl (by omega) Try.underlying25 sz22) ?_
        refine q_run rfl rfl (fun _ H => r_lr H rfl cy (by simp) ag22) ?_
        refine q_run rfl rfl (fun _ H => r_neqF rfl rfl (by omega)) ?_
        refine q_nil ?_
        intro _ H'; clear H; have H := H'; clear H'
        refine c_norm ?_
        refine k_f rfl ?_
        refine k_skip ?_
        refine b_norm ?_
        refine c_norm ?_
        refine k_rg ?_
        refine s_run rfl rfl (r_mv (v := .int _ _) rfl) ?_
        refine s_run rfl rfl (r_add rfl rfl (wI (by omega))) ?_
        refine s_run rfl rfl (r_as (v := .int _ _) rfl) ?_
        refine k_nil ?_
        refine c_round ?_
        refine ⟨_, _, ?_, rfl, k + 1, by omega, rfl, fun i hi => ?_, rfl, rfl, rfl, H⟩
        · omega
        · by_cases hik : i = k
          · subst hik; exact he
          · exact hall i (by omega)
      · refine k_seq ?_
        refine k_seq ?_
        refine k_rg ?_
        refine s_run rfl rfl (r_mv (v := .int _ _) rfl) ?_
        refine s_run rfl rfl (r_mv (v := .slice _ _ _) rfl) ?_
        refine s_run rfl rfl (r_len rfl Try.underlying25) ?_
        refine s_run rfl rfl (r_lssT rfl rfl (by omega)) ?_
        refine k_nil ?_
        refine c_norm ?_
        refine k_t rfl ?_
        refine k_skip ?_
        refine c_norm ?_
        refine k_seq ?_
        refine k_b ?_
        refine k_seq ?_
        refine k_q mixed (by kernel_rfl) H ?_
        refine q_run rfl rfl (fun _ H => r_mv (v := .slice _ _ _) rfl) ?_
        refine q_run rfl rfl (fun _ H => r_mv (v := .int _ _) rfl) ?_
        refine q_run rfl rfl (fun _ H => r_ix1o rfl rfl rfl (by omega) Try.underlying25 sz22) ?_
        refine q_run rfl rfl (fun _ H => r_lr H rfl cx (by simp) ag22) ?_
        refine q_run rfl rfl (fun _ H => r_mv (v := .slice _ _ _) rfl) ?_
        refine q_run rfl rfl (fun _ H => r_mv (v := .int _ _) rfl) ?_
        refine q_run rfl rfl (fun _ H => r_ix1o rfl rfl rfl (by omega) Try.underlying25 sz22) ?_
        refine q_run rfl rfl (fun _ H => r_lr H rfl cy (by simp) ag22) ?_
        refine q_run rfl rfl (fun _ H => r_neqT rfl rfl (by omega)) ?_
        refine q_nil ?_
        intro _ H'; clear H; have H := H'; clear H'
        refine c_norm ?_
        refine k_t rfl ?_
        refine k_seq ?_
        refine k_rg ?_
        refine s_run rfl rfl (r_as (v := .bool _) rfl) ?_
        refine k_nil ?_
        refine c_norm ?_
        refine k_ret ?_
        refine b_ret ?_
        refine c_ret ?_
        refine c_ret ?_
        refine b_ret ?_
        refine c_ret ?_
        refine fin1r (v := .bool _) rfl rfl ?_
        exact ⟨by rw [same_no he], H.only⟩
    · obtain ⟨f, rfl⟩ := live3 h0 h1 h2
      clear h0 h1 h2
      obtain rfl : k = n := by omega
      refine k_seq ?_
      refine k_seq ?_
      refine k_rg ?_
      refine s_run rfl rfl (r_mv (v := .int _ _) rfl) ?_
      refine s_run rfl rfl (r_mv (v := .slice _ _ _) rfl) ?_
      refine s_run rfl rfl (r_len rfl Try.underlying25) ?_
      refine s_run rfl rfl (r_lssF rfl rfl (by omega)) ?_
      refine k_nil ?_
      refine c_norm ?_
      refine k_f rfl ?_
      refine k_exit ?_
      refine c_exit ?_
      refine c_exit ?_
      refine b_hit ?_
      refine c_norm ?_
      refine k_seq ?_
      refine k_rg ?_
      refine s_run rfl rfl (r_as (v := .bool _) rfl) ?_
      refine k_nil ?_
      refine c_norm ?_
      refine k_ret ?_
      refine fin1r (v := .bool _) rfl rfl ?_
      exact ⟨by rw [Nv.same, decide_eq_true (all_upto hall lx ly)], H.only⟩
  · refine k_in (N := 26) Try.func42 rfl rfl rfl ?_
    refine k_seq ?_
    refine k_rg ?_
    refine s_run rfl rfl (r_as (v := .bool _) rfl) ?_
    refine k_nil ?_
    refine c_norm ?_
    refine k_seq ?_
    refine k_seq ?_
    refine k_rg ?_
    refine s_run rfl rfl (r_mv (v := .slice _ _ _) rfl) ?_
    refine s_run rfl rfl (r_len rfl Try.underlying25) ?_
    refine s_run rfl rfl (r_mv (v := .slice _ _ _) rfl) ?_
    refine s_run rfl rfl (r_len rfl Try.underlying25) ?_
    refine s_run rfl rfl (r_neqT rfl rfl (by omega)) ?_
    refine k_nil ?_
    refine c_norm ?_
    refine k_t rfl ?_
    refine k_seq ?_
    refine k_rg ?_
    refine s_run rfl rfl (r_as (v := .bool _) rfl) ?_
    refine k_nil ?_
    refine c_norm ?_
    refine k_ret ?_
    refine c_ret ?_
    refine fin1r (v := .bool _) rfl rfl ?_
    exact ⟨by rw [same_len (by omega)], H.only⟩
theorem take_part {zs : List Int} {m k : Nat} (hl : zs.length = 8 * m) (hk : k < m) : zs.take (8 * k) ++ Nv.part zs k = zs.take (8 * (k + 1)) := by
  unfold Nv.part
  rw [show 8 * (k + 1) = 8 * k + 8 from by omega, List.take_add]
theorem rAll (A : Option Addr) (m c : Nat) (zs : List Int) (w : World) (hz : Sees (Value.int .u64) w [] A zs) (hl : zs.length = 8 * m) (hm : m ≤ 100000) :
    Calls Try.prog 43 [.slice A m c].toArray w fun e w' => ∃ A' b c', e = .returned (.slice A' (8 * m) c') ∧ (8 * m ≠ 0 → A' = some ⟨b, 0, none⟩) ∧ Heap w [] [vec (Value.int .u64) b zs 22] w' := by
  have H := Heap.nil w
  refine k_in (N := 18) Try.func43 rfl rfl rfl ?_
  refine k_seq ?_
  refine k_rg ?_
  refine s_run rfl rfl (r_as (v := .slice _ _ _) rfl) ?_
  refine k_nil ?_
  refine c_norm ?_
  refine k_seq ?_
  refine k_rg ?_
  refine s_run rfl rfl (r_as (v := .slice _ _ _) rfl) ?_
  refine k_nil ?_
  refine c_norm ?_
  refine k_seq ?_
  refine k_seq ?_
  refine k_rg ?_
  refine s_run rfl rfl (r_as (v := .int _ _) rfl) ?_
  refine k_nil ?_
  refine c_norm ?_
  refine k_b ?_
  refine k_loop (fun q f W => ∃ (k : Nat) (A' : Option Addr) (c' : Nat), k ≤ m ∧ q = m - k ∧ f 0 = .slice A m c ∧ f 3 = .slice A' (8 * k) c' ∧ f 4 = .int .i64 k ∧ Heap w [] [ownN 1 (.slice A' (8 * k) c') (8 * k) ((zs.take (8 * k)).map (Value.int .u64)) 22] W) m ⟨0, none, 0, by omega, rfl, rfl, rfl, rfl, H.own_nil 1 22⟩ ?_
  clear H
  rintro q f W ⟨k, A', c', hk, rfl, h0, h3, h4, H⟩
  by_cases hlt : k < m
  · obtain ⟨b, o, rfl, _, hr⟩ := hz (by omega)
    obtain ⟨f, rfl⟩ := live3 h0 h3 h4
    clear h0 h3 h4
    have hp := reads_part (m := m) (i := k) hr hl hlt
    refine k_seq ?_
    refine k_seq ?_
    refine k_rg ?_
    refine s_run rfl rfl (r_mv (v := .int _ _) rfl) ?_
    refine s_run rfl rfl (r_mv (v := .slice _ _ _) rfl) ?_
    refine s_run rfl rfl (r_len rfl Try.underlying52) ?_
    refine s_run rfl rfl (r_lssT rfl rfl (by omega)) ?_
    refine k_nil ?_
    refine c_norm ?_
    refine k_t rfl ?_
    refine k_skip ?_
    refine c_norm ?_
    refine k_seq ?_
    refine k_b ?_
    refine k_rg ?_
    refine s_run rfl rfl (r_mv (v := .slice _ _ _) rfl) ?_
    refine s_run rfl rfl (r_mv (v := .slice _ _ _) rfl) ?_
    refine s_run rfl rfl (r_mv (v := .int _ _) rfl) ?_
    refine s_run rfl rfl (r_ix rfl rfl rfl (by omega) Try.underlying52 sz124) ?_
    refine s_run rfl rfl (r_sla rfl Try.underlying124 sz22 (by omega)) ?_
    refine s_apps (enc := (Value.int .u64))  H 0 rfl rfl rfl rfl ((fun _ => ⟨_, _, rfl, by simp, hp⟩)) (Nv.length_part (by omega)) (fun _ => rfl) (by omega) Try.underlying25 inf22 rfl ?_
    intro A2 c2 _ _ H'; simp only [List.set_cons_zero, List.set_cons_succ, List.take_succ_cons, List.take_zero, List.drop_succ_cons, List.drop_zero, List.cons_append, List.nil_append, List.append_nil, List.length_cons, List.length_nil, Nat.reduceAdd] at H'; clear H; have H := H'; clear H'
    refine s_run rfl rfl (r_as (v := .slice _ _ _) rfl) ?_
    refine k_nil ?_
    refine b_norm ?_
    refine c_norm ?_
    refine k_rg ?_
    refine s_run rfl rfl (r_mv (v := .int _ _) rfl) ?_
    refine s_run rfl rfl (r_add rfl rfl (wI (by omega))) ?_
    refine s_run rfl rfl (r_as (v := .int _ _) rfl) ?_
    refine k_nil ?_
    refine c_round ?_
    rw [take_part hl hlt, show 8 * k + 8 = 8 * (k + 1) from by omega] at H
    refine ⟨_, _, ?_, rfl, k + 1, A2, c2, by omega, rfl, rfl, ?_, rfl, H⟩
    · omega
    · rw [show 8 * (k + 1) = 8 * k + 8 from by omega]; rfl
  · obtain ⟨f, rfl⟩ := live3 h0 h3 h4
    clear h0 h3 h4
    obtain rfl : k = m := by omega
    refine k_seq ?_
    refine k_seq ?_
    refine k_rg ?_
    refine s_run rfl rfl (r_mv (v := .int _ _) rfl) ?_
    refine s_run rfl rfl (r_mv (v := .slice _ _ _) rfl) ?_
    refine s_run rfl rfl (r_len rfl Try.underlying52) ?_
    refine s_run rfl rfl (r_lssF rfl rfl (by omega)) ?_
    refine k_nil ?_
    refine c_norm ?_
    refine k_f rfl ?_
    refine k_exit ?_
    refine c_exit ?_
    refine c_exit ?_
    refine b_hit ?_
    refine c_norm ?_
    refine k_seq ?_
    refine k_rg ?_
    refine s_run rfl rfl (r_mv (v := .slice _ _ _) rfl) ?_
    refine s_run rfl rfl (r_as (v := .slice _ _ _) rfl) ?_
    refine k_nil ?_
    refine c_norm ?_
    refine k_ret ?_
    refine fin1r (v := .slice _ _ _) rfl rfl ?_
    rw [List.take_of_length_le (by omega)] at H
    obtain ⟨b, hb, H3⟩ := own_vec0 H
    exact ⟨A', b, c', rfl, hb, H3⟩
end Go.Proofs.Ytmekhdclnhhhbaa
end

section
namespace Go.Proofs.Ytmekhdclnhhhbaa
open Go.RowKit
set_option linter.unusedSimpArgs false
set_option linter.unusedVariables false
def flat (zs : List Int) (k : Nat) : List Int := zs.take k ++ List.replicate (8 * ((k + 7) / 8) - k) 0
theorem flat_len (zs : List Int) (k : Nat) (h : k ≤ zs.length) : (flat zs k).length = 8 * ((k + 7) / 8) := by simp [flat]; omega
theorem set_at (xs : List Int) (k r : Nat) (z : Int) (h : xs.length = k) (hr : 0 < r) : (xs ++ List.replicate r 0).set k z = xs ++ [z] ++ List.replicate (r - 1) 0 := by
  obtain ⟨r, rfl⟩ : ∃ q, r = q + 1 := ⟨r - 1, by omega⟩
  rw [List.set_append_right _ _ (by omega), h, Nat.sub_self, List.replicate_succ, List.set_cons_zero]
  simp
theorem flat_next0 {zs : List Int} {k : Nat} {z : Int} (hz : zs[k]? = some z) (h8 : k % 8 = 0) : (flat zs k ++ [0, 0, 0, 0, 0, 0, 0, 0]).set k z = flat zs (k + 1) := by
  have hk : k < zs.length := (List.getElem?_eq_some_iff.1 hz).1
  have e1 : flat zs k = zs.take k := by unfold flat; rw [show 8 * ((k + 7) / 8) - k = 0 from by omega]; simp
  rw [e1]
  have := set_at (zs.take k) k 8 z (by simp; omega) (by omega)
  rw [show List.replicate 8 (0 : Int) = [0, 0, 0, 0, 0, 0, 0, 0] from rfl] at this
  rw [this]
  unfold flat
  rw [take_succ_of hz, show 8 * ((k + 1 + 7) / 8) - (k + 1) = 7 from by omega]
theorem flat_next1 {zs : List Int} {k : Nat} {z : Int} (hz : zs[k]? = some z) (h8 : ¬ k % 8 = 0) : (flat zs k).set k z = flat zs (k + 1) := by
  have hk : k < zs.length := (List.getElem?_eq_some_iff.1 hz).1
  unfold flat
  rw [set_at (zs.take k) k _ z (by simp; omega) (by omega), take_succ_of hz]
  congr 2
  omega
def nilDev : List Value := [.slice none 0 0, .slice none 0 0, .slice none 0 0, .slice none 0 0, .slice none 0 0, .int .i64 0, .int .i64 0, .bool false]
theorem rLoad (A : Option Addr) (n c : Nat) (zs : List Int) (F : List Nat) (w : World) (hz : Sees (Value.int .u64) w [] A zs) (hl : zs.length = n) (hn : n ≤ 500000) (hF : ∀ i ∈ F, i < w.heap.size) :
    Calls Try.prog 44 [.slice A n c].toArray w fun e w' => ∃ s', e = .returned (.agg (refCells s' (Nv.load (zs ++ List.replicate (8 * ((n + 7) / 8) - n) 0) ((n + 7) / 8)) ((n + 7) / 8)).toArray) ∧ Heap w [] [] w' ∧ RefOk w' F s' (Nv.load (zs ++ List.replicate (8 * ((n + 7) / 8) - n) 0) ((n + 7) / 8)) ((n + 7) / 8) := by
  have H := Heap.nil w
  refine k_in (N := 55) Try.func44 rfl rfl rfl ?_
  refine k_seq ?_
  refine k_rg ?_
  refine s_al H rfl inf55 ?_
  intro p2 _ H'; clear H; have H := H'; clear H'
  refine k_nil ?_
  refine c_norm ?_
  refine k_seq ?_
  refine k_rg ?_
  refine s_al H rfl inf55 ?_
  intro p3 _ H'; clear H; have H := H'; clear H'
  refine k_nil ?_
  refine c_norm ?_
  refine k_seq ?_
  refine k_seq ?_
  refine k_rg ?_
  refine s_run rfl rfl (r_as (v := .int _ _) rfl) ?_
  refine k_nil ?_
  refine c_norm ?_
  refine k_b ?_
  refine k_loop (fun q f W => ∃ (k : Nat) (B : Option Addr) (cb : Nat), k ≤ n ∧ q = n - k ∧ (k ≠ 0 → ∃ b, B = some ⟨b, 0, none⟩) ∧ f 0 = .slice A n c ∧ f 2 = ptr p2 ∧ f 3 = ptr p3 ∧ f 4 = .int .i64 k ∧ Heap w [] [ownN 8 (.slice B ((k + 7) / 8) cb) ((k + 7) / 8) ((flat zs k).map (Value.int .u64)) 124, blk p3 [.slice B ((k + 7) / 8) cb, .slice none 0 0, .slice none 0 0, .slice none 0 0, .slice none 0 0, .int .i64 0, .int .i64 0, .bool false] 55, blk p2 nilDev 55] W) n ⟨0, none, 0, by omega, rfl, fun h => absurd rfl h, rfl, rfl, rfl, rfl, by rw [show flat zs 0 = [] from rfl]; exact H.own_nil 8 124⟩ ?_
  clear H
  rintro q f W ⟨k, B, cb, hk, rfl, hB, h0, h2, h3, h4, H⟩
  obtain ⟨f, rfl⟩ := live4 h0 h2 h3 h4
  clear h0 h2 h3 h4
  by_cases hlt : k < n
  · have hzk := getE (xs := zs) (i := k) (by omega)
    obtain ⟨b0, o0, rfl, _, hr⟩ := hz (by omega)
    have hcell := hr k _ hzk
    have hfl := flat_len zs k (by omega)
    have hfl1 := flat_len zs (k + 1) (by omega)
    by_cases h8 : k % 8 = 0
    · have hnx := flat_next0 hzk h8
      have em : (k + 7) / 8 + 1 = (k + 1 + 7) / 8 := by omega
      have hlen8 : (flat zs k ++ [0, 0, 0, 0, 0, 0, 0, 0]).length = 8 * ((k + 7) / 8) + 8 := by rw [List.length_append, hfl]; rfl
      refine k_seq ?_
      refine k_seq ?_
      refine k_rg ?_
      refine s_run rfl rfl (r_mv (v := .int _ _) rfl) ?_
      refine s_run rfl rfl (r_mv (v := .slice _ _ _) rfl) ?_
      refine s_run rfl rfl (r_len rfl Try.underlying25) ?_
      refine s_run rfl rfl (r_lssT rfl rfl (by omega)) ?_
      refine k_nil ?_
      refine c_norm ?_
      refine k_t rfl ?_
      refine k_skip ?_
      refine c_norm ?_
      refine k_seq ?_
      refine k_b ?_
      refine k_seq ?_
      refine k_seq ?_
      refine k_rg ?_
      refine s_run rfl rfl (r_mv (v := .int _ _) rfl) ?_
      refine s_run rfl rfl (r_rem rfl rfl (by omega)) ?_
      refine s_run rfl rfl (r_eqlT rfl rfl (by omega)) ?_
      refine k_nil ?_
      refine c_norm ?_
      refine k_t rfl ?_
      refine k_rg ?_
      refine s_run rfl rfl (r_fa0 rfl fo55_0) ?_
      refine s_run rfl rfl (r_lo H 1 rfl rfl rfl ag52) ?_
      refine s_run rfl rfl (r_bd (bd124 ) rfl) ?_
      refine s_appN (enc := (Value.int .u64)) (zs := [0, 0, 0, 0, 0, 0, 0, 0]) H 0 rfl rfl rfl rfl (fun _ => rfl) (by omega) (by kernel_rfl) rfl rfl rfl (by omega) Try.underlying52 inf124 rfl ?_
      intro _ bn cn _ H'; simp only [List.set_cons_zero, List.set_cons_succ, List.take_succ_cons, List.take_zero, List.drop_succ_cons, List.drop_zero, List.cons_append, List.nil_append, List.append_nil, List.length_cons, List.length_nil, Nat.reduceAdd] at H'; clear H; have H := H'; clear H'
      refine s_run rfl rfl (r_fa0 rfl fo55_0) ?_
      refine s_st (u := .slice _ _ _) H 1 rfl rfl rfl rfl rfl rfl sz52 ?_
      intro _ H'; simp only [List.set_cons_zero, List.set_cons_succ, List.take_succ_cons, List.take_zero, List.drop_succ_cons, List.drop_zero, List.cons_append, List.nil_append, List.append_nil, List.length_cons, List.length_nil, Nat.reduceAdd] at H'; clear H; have H := H'; clear H'
      refine k_nil ?_
      refine c_norm ?_
      refine k_qt 12 mixed (by kernel_rfl) H rfl rfl ?_
      refine q_run rfl rfl (fun _ H => r_fa0 rfl fo55_0) ?_
      refine q_run rfl rfl (fun _ H => r_lo H 1 rfl rfl rfl ag52) ?_
      refine q_run rfl rfl (fun _ H => r_mv (v := .int _ _) rfl) ?_
      refine q_run rfl rfl (fun _ H => r_quo rfl rfl (by omega) (wI (by omega))) ?_
      refine q_run rfl rfl (fun _ H => r_mv (v := .int _ _) rfl) ?_
      refine q_run rfl rfl (fun _ H => r_rem rfl rfl (by omega)) ?_
      refine q_run rfl rfl (fun _ H => r_mv (v := .slice _ _ _) rfl) ?_
      refine q_run rfl rfl (fun _ H => r_mv (v := .int _ _) rfl) ?_
      refine q_run rfl rfl (fun _ H => r_ix1o rfl rfl rfl (by omega) Try.underlying25 sz22) ?_
      refine q_run rfl rfl (fun _ H => r_lr H rfl hcell (by simp) ag22) ?_
      refine q_run rfl rfl (fun _ H => r_ix0 (i := k / 8) rfl rfl (by omega) (by omega) Try.underlying52 sz124) ?_
      refine q_run rfl rfl (fun _ H => r_ia1 (i := k % 8) rfl rfl (by omega) (by omega) Try.underlying124 sz22) ?_
      refine q_nil ?_
      intro _ H'; clear H; have H := H'; clear H'
      refine s_so (enc := Value.int .u64) (xs := flat zs k ++ [0, 0, 0, 0, 0, 0, 0, 0]) (z := zs.getD k default) H 0 rfl rfl rfl rfl rfl (by rw [hlen8]; omega) rfl sz22 ?_
      intro _ H'; simp only [List.set_cons_zero, List.set_cons_succ, List.take_succ_cons, List.take_zero, List.drop_succ_cons, List.drop_zero, List.cons_append, List.nil_append, List.append_nil, List.length_cons, List.length_nil, Nat.reduceAdd] at H'; clear H; have H := H'; clear H'
      refine k_nil ?_
      refine b_norm ?_
      refine c_norm ?_
      refine k_rg ?_
      refine s_run rfl rfl (r_mv (v := .int _ _) rfl) ?_
      refine s_run rfl rfl (r_add rfl rfl (wI (by omega))) ?_
      refine s_run rfl rfl (r_as (v := .int _ _) rfl) ?_
      refine k_nil ?_
      refine c_round ?_
      have e1 : k / 8 * 8 + k % 8 = k := by omega
      rw [e1, hnx] at H
      refine ⟨_, _, ?_, rfl, k + 1, some ⟨bn, 0, none⟩, cn, by omega, rfl, fun _ => ⟨bn, rfl⟩, rfl, rfl, rfl, rfl, ?_⟩
      · omega
      · rw [← em]; exact H
    · have hnx := flat_next1 hzk h8
      obtain ⟨b, rfl⟩ := hB (by omega)
      have em : (k + 7) / 8 = (k + 1 + 7) / 8 := by omega
      refine k_seq ?_
      refine k_seq ?_
      refine k_rg ?_
      refine s_run rfl rfl (r_mv (v := .int _ _) rfl) ?_
      refine s_run rfl rfl (r_mv (v := .slice _ _ _) rfl) ?_
      refine s_run rfl rfl (r_len rfl Try.underlying25) ?_
      refine s_run rfl rfl (r_lssT rfl rfl (by omega)) ?_
      refine k_nil ?_
      refine c_norm ?_
      refine k_t rfl ?_
      refine k_skip ?_
      refine c_norm ?_
      refine k_seq ?_
      refine k_b ?_
      refine k_seq ?_
      refine k_seq ?_
      refine k_rg ?_
      refine s_run rfl rfl (r_mv (v := .int _ _) rfl) ?_
      refine s_run rfl rfl (r_rem rfl rfl (by omega)) ?_
      refine s_run rfl rfl (r_eqlF rfl rfl (by omega)) ?_
      refine k_nil ?_
      refine c_norm ?_
      refine k_f rfl ?_
      refine k_skip ?_
      refine c_norm ?_
      refine k_qt 12 mixed (by kernel_rfl) H rfl rfl ?_
      refine q_run rfl rfl (fun _ H => r_fa0 rfl fo55_0) ?_
      refine q_run rfl rfl (fun _ H => r_lo H 1 rfl rfl rfl ag52) ?_
      refine q_run rfl rfl (fun _ H => r_mv (v := .int _ _) rfl) ?_
      refine q_run rfl rfl (fun _ H => r_quo rfl rfl (by omega) (wI (by omega))) ?_
      refine q_run rfl rfl (fun _ H => r_mv (v := .int _ _) rfl) ?_
      refine q_run rfl rfl (fun _ H => r_rem rfl rfl (by omega)) ?_
      refine q_run rfl rfl (fun _ H => r_mv (v := .slice _ _ _) rfl) ?_
      refine q_run rfl rfl (fun _ H => r_mv (v := .int _ _) rfl) ?_
      refine q_run rfl rfl (fun _ H => r_ix1o rfl rfl rfl (by omega) Try.underlying25 sz22) ?_
      refine q_run rfl rfl (fun _ H => r_lr H rfl hcell (by simp) ag22) ?_
      refine q_run rfl rfl (fun _ H => r_ix0 (i := k / 8) rfl rfl (by omega) (by omega) Try.underlying52 sz124) ?_
      refine q_run rfl rfl (fun _ H => r_ia1 (i := k % 8) rfl rfl (by omega) (by omega) Try.underlying124 sz22) ?_
      refine q_nil ?_
      intro _ H'; clear H; have H := H'; clear H'
      refine s_so (z := zs.getD k default) H 0 rfl rfl rfl rfl rfl (by rw [hfl]; omega) rfl sz22 ?_
      intro _ H'; simp only [List.set_cons_zero, List.set_cons_succ, List.take_succ_cons, List.take_zero, List.drop_succ_cons, List.drop_zero, List.cons_append, List.nil_append, List.append_nil, List.length_cons, List.length_nil, Nat.reduceAdd] at H'; clear H; have H := H'; clear H'
      refine k_nil ?_
      refine b_norm ?_
      refine c_norm ?_
      refine k_rg ?_
      refine s_run rfl rfl (r_mv (v := .int _ _) rfl) ?_
      refine s_run rfl rfl (r_add rfl rfl (wI (by omega))) ?_
      refine s_run rfl rfl (r_as (v := .int _ _) rfl) ?_
      refine k_nil ?_
      refine c_round ?_
      have e1 : k / 8 * 8 + k % 8 = k := by omega
      rw [e1, hnx] at H
      refine ⟨_, _, ?_, rfl, k + 1, some ⟨b, 0, none⟩, cb, by omega, rfl, fun _ => ⟨b, rfl⟩, rfl, rfl, rfl, rfl, ?_⟩
      · omega
      · rw [← em]; exact H
  · obtain rfl : k = n := by omega
    have hfin : flat zs k = zs ++ List.replicate (8 * ((k + 7) / 8) - k) 0 := by unfold flat; rw [List.take_of_length_le (by omega)]
    have hfl := flat_len zs k (by omega)
    rw [← hfin]
    generalize flat zs k = fz at *
    have hq : (k + 7) / 8 ≤ 100000 := by omega
    generalize (k + 7) / 8 = m at *
    obtain ⟨b, hb, hlb, H⟩ := own_vecN (by omega) H
    have HB := H
    have hnd := HB.nd
    clear H
    have H := Heap.start HB.drop.ents
    generalize hG : ids [blk p3 [.slice B m cb, .slice none 0 0, .slice none 0 0, .slice none 0 0, .slice none 0 0, .int .i64 0, .int .i64 0, .bool false] 55, blk p2 nilDev 55] = G at H
    have hS : Sees (Value.int .u64) W G B fz := by
      intro h0
      refine ⟨b, 0, hb (by omega), ?_, HB.reads0 0 rfl⟩
      subst hG
      intro hm
      rw [ids_cons] at hnd
      exact (List.nodup_append.1 hnd).2.2 b (by simp [vec, h0]) b hm rfl
    have H := H.own_nil 8 124
    refine k_seq ?_
    refine k_seq ?_
    refine k_rg ?_
    refine s_run rfl rfl (r_mv (v := .int _ _) rfl) ?_
    refine s_run rfl rfl (r_mv (v := .slice _ _ _) rfl) ?_
    refine s_run rfl rfl (r_len rfl Try.underlying25) ?_
    refine s_run rfl rfl (r_lssF rfl rfl (by omega)) ?_
    refine k_nil ?_
    refine c_norm ?_
    refine k_f rfl ?_
    refine k_exit ?_
    refine c_exit ?_
    refine c_exit ?_
    refine b_hit ?_
    refine c_norm ?_
    refine k_seq ?_
    refine k_rg ?_
    refine s_run rfl rfl (r_fa0 rfl fo55_1) ?_
    refine s_run rfl rfl (r_lo H 1 rfl rfl rfl ag52) ?_
    refine s_run rfl rfl (r_fa0 rfl fo55_0) ?_
    refine s_run rfl rfl (r_lo H 1 rfl rfl rfl ag52) ?_
    refine s_apsN (enc := (Value.int .u64)) (xs := []) H 0 rfl rfl rfl rfl (hS) (by omega) (fun _ => rfl) (by omega) (by omega) Try.underlying52 inf124 rfl ?_
    intro A1 c1 _ H'; simp only [List.set_cons_zero, List.set_cons_succ, List.take_succ_cons, List.take_zero, List.drop_succ_cons, List.drop_zero, List.cons_append, List.nil_append, List.append_nil, List.length_cons, List.length_nil, Nat.reduceAdd] at H'; clear H; have H := H'; clear H'
    refine s_run rfl rfl (r_fa0 rfl fo55_1) ?_
    refine s_st (u := .slice _ _ _) H 1 rfl rfl rfl rfl rfl rfl sz52 ?_
    intro _ H'; simp only [List.set_cons_zero, List.set_cons_succ, List.take_succ_cons, List.take_zero, List.drop_succ_cons, List.drop_zero, List.cons_append, List.nil_append, List.append_nil, List.length_cons, List.length_nil, Nat.reduceAdd] at H'; clear H; have H := H'; clear H'
    refine k_nil ?_
    refine c_norm ?_
    refine k_seq ?_
    refine k_rg ?_
    refine s_run rfl rfl (r_fa0 rfl fo55_0) ?_
    refine s_run rfl rfl (r_lo H 1 rfl rfl rfl ag52) ?_
    refine s_run rfl rfl (r_len rfl Try.underlying52) ?_
    refine s_mkN (Value.int .u64) 0 8 (m := m) H rfl rfl rfl (by omega) (by omega) (by omega) Try.underlying52 inf124 rfl (by omega) ?_
    intro bw _ H'; clear H; have H := H'; clear H'
    refine s_run rfl rfl (r_fa0 rfl fo55_2) ?_
    refine s_st (u := .slice _ _ _) H 2 rfl rfl rfl rfl rfl rfl sz52 ?_
    intro _ H'; simp only [List.set_cons_zero, List.set_cons_succ, List.take_succ_cons, List.take_zero, List.drop_succ_cons, List.drop_zero, List.cons_append, List.nil_append, List.append_nil, List.length_cons, List.length_nil, Nat.reduceAdd] at H'; clear H; have H := H'; clear H'
    refine k_nil ?_
    refine c_norm ?_
    refine k_seq ?_
    refine k_rg ?_
    refine s_run rfl rfl (r_fa0 rfl fo55_0) ?_
    refine s_run rfl rfl (r_lo H 2 rfl rfl rfl ag52) ?_
    refine s_run rfl rfl (r_len rfl Try.underlying52) ?_
    refine s_mk Value.bool false (m := m) H rfl rfl rfl (by omega) (by omega) (by omega) Try.underlying53 inf4 rfl ?_
    intro bd _ H'; clear H; have H := H'; clear H'
    refine s_run rfl rfl (r_fa0 rfl fo55_3) ?_
    refine s_st (u := .slice _ _ _) H 3 rfl rfl rfl rfl rfl rfl sz53 ?_
    intro _ H'; simp only [List.set_cons_zero, List.set_cons_succ, List.take_succ_cons, List.take_zero, List.drop_succ_cons, List.drop_zero, List.cons_append, List.nil_append, List.append_nil, List.length_cons, List.length_nil, Nat.reduceAdd] at H'; clear H; have H := H'; clear H'
    refine k_nil ?_
    refine c_norm ?_
    refine k_seq ?_
    refine k_rg ?_
    refine s_run rfl rfl (r_fa0 rfl fo55_0) ?_
    refine s_run rfl rfl (r_lo H 3 rfl rfl rfl ag52) ?_
    refine s_run rfl rfl (r_len rfl Try.underlying52) ?_
    refine s_mk Value.bool false (m := m) H rfl rfl rfl (by omega) (by omega) (by omega) Try.underlying53 inf4 rfl ?_
    intro bp _ H'; clear H; have H := H'; clear H'
    refine s_run rfl rfl (r_fa0 rfl fo55_4) ?_
    refine s_st (u := .slice _ _ _) H 4 rfl rfl rfl rfl rfl rfl sz53 ?_
    intro _ H'; simp only [List.set_cons_zero, List.set_cons_succ, List.take_succ_cons, List.take_zero, List.drop_succ_cons, List.drop_zero, List.cons_append, List.nil_append, List.append_nil, List.length_cons, List.length_nil, Nat.reduceAdd] at H'; clear H; have H := H'; clear H'
    refine k_nil ?_
    refine c_norm ?_
    refine k_seq ?_
    refine k_rg ?_
    refine s_run rfl rfl (r_fa0 rfl fo55_6) ?_
    refine s_st (u := .int _ _) H 4 rfl rfl rfl rfl rfl rfl sz3 ?_
    intro _ H'; simp only [List.set_cons_zero, List.set_cons_succ, List.take_succ_cons, List.take_zero, List.drop_succ_cons, List.drop_zero, List.cons_append, List.nil_append, List.append_nil, List.length_cons, List.length_nil, Nat.reduceAdd] at H'; clear H; have H := H'; clear H'
    refine k_nil ?_
    refine c_norm ?_
    refine k_seq ?_
    refine k_rg ?_
    refine s_run rfl rfl (r_la H 4 rfl rfl rfl ag55 sz55) ?_
    refine s_sw H 5 rfl rfl rfl rfl rfl rfl rfl sz55 ?_
    intro _ H'; simp only [List.set_cons_zero, List.set_cons_succ, List.take_succ_cons, List.take_zero, List.drop_succ_cons, List.drop_zero, List.cons_append, List.nil_append, List.append_nil, List.length_cons, List.length_nil, Nat.reduceAdd] at H'; clear H; have H := H'; clear H'
    refine k_nil ?_
    refine c_norm ?_
    refine k_ret ?_
    refine fx1r rfl (rv_a H 5 rfl rfl rfl ag55 sz55) ?_
    have HF := Heap.step (A := [blk p3 [.slice B m cb, .slice none 0 0, .slice none 0 0, .slice none 0 0, .slice none 0 0, .int .i64 0, .int .i64 0, .bool false] 55, blk p2 nilDev 55]) (L := [vec (Value.int .u64) b fz 124]) (HB.perm (by
      refine (List.Perm.swap _ _ _).trans (List.Perm.cons _ (List.Perm.swap _ _ _)))) H (by rw [← hG]; exact fun _ h => h)
    simp only [List.cons_append, List.nil_append] at HF
    have HP := HF.pick 3 rfl
    simp only [List.eraseIdx_cons_succ, List.eraseIdx_cons_zero] at HP
    rw [Nat.zero_add] at HP
    obtain ⟨b1, hb1, _, HP⟩ := own_vecN (by omega) HP
    refine ⟨⟨B, cb, A1, c1, some ⟨bw, 0, none⟩, m, some ⟨bd, 0, none⟩, m, some ⟨bp, 0, none⟩, m, -1⟩, ?_, HF.clear, ⟨?_, ?_, ?_, ?_, ?_, .inr ⟨rfl, rfl⟩, ⟨hfl, hfl, by simp [Nv.load, hfl], by simp [Nv.load], by simp [Nv.load]⟩⟩⟩
    · simp only [refE, Nv.load, Nat.zero_add]
    · exact HP.sees 6 rfl hF hb (fun h => by omega)
    · exact HP.sees 0 rfl hF hb1 (fun h => by have h' : fz.length ≠ 0 := h; omega)
    · have := HP.sees 3 rfl hF (A := some ⟨bw, 0, none⟩) (m := 1) (fun _ => rfl) (fun _ => by simp)
      rw [Nat.mul_comm, ← hfl] at this
      exact this
    · exact HP.sees 2 rfl hF (A := some ⟨bd, 0, none⟩) (m := 1) (fun _ => rfl) (fun _ => by simp)
    · exact HP.sees 1 rfl hF (A := some ⟨bp, 0, none⟩) (m := 1) (fun _ => rfl) (fun _ => by simp)
end Go.Proofs.Ytmekhdclnhhhbaa
end

section
namespace Go.Proofs.Ytmekhdclnhhhbaa
open Go.RowKit
set_option linter.unusedSimpArgs false
set_option linter.unusedVariables false
end Go.Proofs.Ytmekhdclnhhhbaa
end

section
namespace Go.Proofs.Ytmekhdclnhhhbaa
open Go.RowKit
set_option linter.unusedSimpArgs false
set_option linter.unusedVariables false
def grp (A : List Ent) : Ent :=
  ⟨ids A, fun W => Ents A W, fun W h i hi => by
    obtain ⟨E, hE, hm⟩ := mem_ids.1 hi
    exact E.lt W (h.1 E hE) i hm, fun W W' hh h => ⟨fun E hE => E.loc W W' (fun i hi => hh i (mem_ids.2 ⟨E, hE, hi⟩)) (h.1 E hE), h.2⟩⟩
theorem Heap.grp_ents {w0 W : World} {F : List Nat} {L A : List Ent} (H : Heap w0 F L W) (k : Nat) (hk : L[k]? = some (grp A)) : Ents A W := H.ok _ (List.mem_of_getElem? hk)
theorem grp_heap {W W' : World} {F : List Nat} {A : List Ent} (h : Heap W F A W') : Heap W F [grp A] W' :=
  ⟨fun E hE => by (rw [List.mem_singleton.1 hE]; exact h.ents), by simpa [ids, grp] using h.nd, by simpa [ids, grp] using h.own, h.only⟩
theorem Heap.grp_at {w0 W W' : World} {F : List Nat} {L A A' : List Ent} (H : Heap w0 F L W) (k : Nat) (hk : L[k]? = some (grp A)) (h' : Heap W (ids A) A' W') : Heap w0 F (L.set k (grp A')) W' :=
  H.at k hk (grp_heap h') (fun i hi => hi)
section
variable {P : Program} {n : Nat} {f : Nat → Value} {W : World} {dst : Option Tmp} {ty : TypeId} {pos : String} {af : Array Edge} {g : Option (Nat × Bool)} {x y : Operand} {t t2 : TypeId}
theorem r_bneq {a b : Bool} (hx : ev n f x = .bool a) (hy : ev n f y = .bool b) (h : a = b) (ht : P.underlying t = some .bool) : (execOp (ev n f) ⟨dst, .binOp .neq t x y t2, ty, pos, af, g⟩).run P W = .ok (.value (.bool false)) W := by
  subst h
  have h : ∀ d : Nat, (Op.equalIn (d + 1) t (.bool a) (.bool a)).run P W = .ok true W := fun d => by
    simp [Op.equalIn, run_underlying ht]
  have h2 : (binOp .neq t (.bool a) (.bool a)).run P W = .ok (.bool false) W := by
    simp only [binOp]
    simp [Op.equal, Op.maxDepth, h 9999]
  have h3 : (eqGuard .neq t x y (.bool a) (.bool a)).run P W = .ok () W := by simp [eqGuard]
  simp only [execOp, hx, hy, Sem.run_bind, h3, h2, Result.andThen_ok]; rfl
end
theorem same_self (xs : List Int) : Nv.same xs xs = true := by simp [Nv.same]
theorem lSame (g : Geo) (d : Nv.D) (s : RefS) (m : Nat) (w : World) (hE : Ents (devL g d) w) (hr : RefOk w [] s d m) (hm : m ≤ 60000) :
    Calls Try.prog 56 [ptr g.p, .agg (refCells s d m).toArray].toArray w fun e w' => e = .returned (.bool true) ∧ Only [] w w' := by
  have HD := Heap.start hE
  have H := Heap.nil w
  obtain ⟨A0, c0, A1, c1, A2, c2, A3, c3, A4, c4, rf0⟩ := s
  have ho := hr.ok
  have hc := ho.hc
  have hl := ho.hl
  have hd := ho.hd
  have hLen := nLen g d
  have hLines := nLines g d
  rw [hc] at hLen
  rw [hd] at hLines
  have hDi := rDirty ⟨A0, c0, A1, c1, A2, c2, A3, c3, A4, c4, rf0⟩ d m
  have hdl := dirtyTo_len d.dirty m
  rw [refE] at hDi
  rw [refE]
  simp only at hDi ⊢
  refine k_in (N := 78) Try.func56 rfl rfl rfl ?_
  refine k_seq ?_
  refine k_rg ?_
  refine s_box H rfl rfl ?_
  intro p3 _ H'; clear H; have H := H'; clear H'
  refine s_run rfl rfl (r_as (v := .bool _) rfl) ?_
  refine k_nil ?_
  refine c_norm ?_
  refine k_seq ?_
  refine k_seq ?_
  refine k_cut (fun f' W' => f' 0 = ptr g.p ∧ f' 3 = ptr p3 ∧ f' 51 = .bool false ∧ Heap w [] [blk p3 [.slice A0 m c0, .slice A1 m c1, .slice A2 m c2, .slice A3 m c3, .slice A4 m c4, .int .i64 d.steps, .int .i64 rf0, .bool d.dead] 55] W') ?_ ?_
  · have HR := H; clear H; have H := HR.tree; refine k_tr mixed ?_
    refine t_take 0 rfl (by kernel_rfl) (by kernel_rfl) (by kernel_rfl) rfl (fun _ _ _ _ h => nomatch h.1) rfl (fun _ hS => r_mv (v := .pointer _) rfl) H.only ?_
    refine t_take 2 rfl (by kernel_rfl) (by kernel_rfl) (by kernel_rfl) rfl (fun _ _ _ _ h => nomatch h.1) rfl (fun _ hS => r_fa0 rfl fo55_0) H.only ?_
    refine t_take 3 rfl (by kernel_rfl) (by kernel_rfl) (by kernel_rfl) rfl (fun _ _ _ _ h => nomatch h.1) rfl (fun _ hS => r_lo (HR.same hS) 0 rfl rfl rfl ag52) H.only ?_
    refine t_take 4 rfl (by kernel_rfl) (by kernel_rfl) (by kernel_rfl) rfl (fun _ _ _ _ h => nomatch h.1) rfl (fun _ hS => r_len rfl Try.underlying52) H.only ?_
    refine t_take 5 rfl (by kernel_rfl) (by kernel_rfl) (by kernel_rfl) rfl (fun _ _ _ _ h => nomatch h.1) rfl (fun _ hS => r_mul rfl rfl (wI (by omega))) H.only ?_
    refine t_up1 1 (by kernel_rfl) ?_
    refine up_mk rfl ?_
    refine s_call rfl (hLen _ (HD.same (HR.only.trans H.only)).ents) (ca24 rfl) ?_
    rintro e W1 ⟨rfl, H'⟩
    refine ⟨_, rfl, ?_⟩
    have H := H.same H'; clear H'
    refine k_nil ?_
    refine t_on H.only ?_
    refine t_take 6 rfl (by kernel_rfl) (by kernel_rfl) (by kernel_rfl) rfl (fun _ _ _ _ h => nomatch h.1) rfl (fun _ hS => r_neqF rfl rfl (by omega)) H.only ?_
    refine t_take 7 rfl (by kernel_rfl) (by kernel_rfl) (by kernel_rfl) rfl (fun _ _ _ _ h => nomatch h.1) rfl (fun _ hS => r_mv (v := .bool _) rfl) H.only ?_
    refine t_take 8 rfl (by kernel_rfl) (by kernel_rfl) (by kernel_rfl) rfl (fun _ _ _ _ h => nomatch h.1) (g_on 13 (by kernel_rfl) rfl) (fun _ hS => r_mv (v := .pointer _) rfl) H.only ?_
    refine t_take 10 rfl (by kernel_rfl) (by kernel_rfl) (by kernel_rfl) rfl (fun _ _ _ _ h => nomatch h.1) (g_on 13 (by kernel_rfl) rfl) (fun _ hS => r_fa0 rfl fo55_0) H.only ?_
    refine t_take 11 rfl (by kernel_rfl) (by kernel_rfl) (by kernel_rfl) rfl (fun _ _ _ _ h => nomatch h.1) (g_on 13 (by kernel_rfl) rfl) (fun _ hS => r_lo (HR.same hS) 0 rfl rfl rfl ag52) H.only ?_
    refine t_take 12 rfl (by kernel_rfl) (by kernel_rfl) (by kernel_rfl) rfl (fun _ _ _ _ h => nomatch h.1) (g_on 13 (by kernel_rfl) rfl) (fun _ hS => r_len rfl Try.underlying52) H.only ?_
    refine t_up1 9 (by kernel_rfl) ?_
    refine up_mk rfl ?_
    refine s_call (g_on 13 (by kernel_rfl) rfl) (hLines _ (HD.same (HR.only.trans H.only)).ents) (ca23 rfl) ?_
    rintro e W1 ⟨rfl, H'⟩
    refine ⟨_, rfl, ?_⟩
    have H := H.same H'; clear H'
    refine k_nil ?_
    refine t_on H.only ?_
    refine t_take 13 rfl (by kernel_rfl) (by kernel_rfl) (by kernel_rfl) rfl (fun _ _ _ _ h => nomatch h.1) (g_on 13 (by kernel_rfl) rfl) (fun _ hS => r_neqF rfl rfl (by omega)) H.only ?_
    refine t_take 14 rfl (by kernel_rfl) (by kernel_rfl) (by kernel_rfl) rfl (fun _ _ _ _ h => nomatch h.1) rfl (fun _ hS => r_pkF (v := .bool _) rfl rfl) H.only ?_
    refine t_take 15 rfl (by kernel_rfl) (by kernel_rfl) (by kernel_rfl) rfl (fun _ _ _ _ h => nomatch h.1) rfl (fun _ hS => r_mv (v := .bool _) rfl) H.only ?_
    refine t_take 16 rfl (by kernel_rfl) (by kernel_rfl) (by kernel_rfl) rfl (fun _ _ _ _ h => nomatch h.1) (g_on 21 (by kernel_rfl) rfl) (fun _ hS => r_mv (v := .pointer _) rfl) H.only ?_
    refine t_take 18 rfl (by kernel_rfl) (by kernel_rfl) (by kernel_rfl) rfl (fun _ _ _ _ h => nomatch h.1) (g_on 21 (by kernel_rfl) rfl) (fun _ hS => r_fa0 rfl fo55_5) H.only ?_
    refine t_take 19 rfl (by kernel_rfl) (by kernel_rfl) (by kernel_rfl) rfl (fun _ _ _ _ h => nomatch h.1) (g_on 21 (by kernel_rfl) rfl) (fun _ hS => r_lo (HR.same hS) 0 rfl rfl rfl ag3) H.only ?_
    refine t_up1 17 (by kernel_rfl) ?_
    refine up_mk rfl ?_
    refine s_call (g_on 21 (by kernel_rfl) rfl) (nSteps g d _ (HD.same (HR.only.trans H.only)).ents) (ca29 rfl) ?_
    rintro e W1 ⟨rfl, H'⟩
    refine ⟨_, rfl, ?_⟩
    have H := H.same H'; clear H'
    refine k_nil ?_
    refine t_on H.only ?_
    refine t_take 20 rfl (by kernel_rfl) (by kernel_rfl) (by kernel_rfl) rfl (fun _ _ _ _ h => nomatch h.1) (g_on 21 (by kernel_rfl) rfl) (fun _ hS => r_neqF rfl rfl (by omega)) H.only ?_
    refine t_take 21 rfl (by kernel_rfl) (by kernel_rfl) (by kernel_rfl) rfl (fun _ _ _ _ h => nomatch h.1) rfl (fun _ hS => r_pkF (v := .bool _) rfl rfl) H.only ?_
    refine t_take 22 rfl (by kernel_rfl) (by kernel_rfl) (by kernel_rfl) rfl (fun _ _ _ _ h => nomatch h.1) rfl (fun _ hS => r_mv (v := .bool _) rfl) H.only ?_
    refine t_take 23 rfl (by kernel_rfl) (by kernel_rfl) (by kernel_rfl) rfl (fun _ _ _ _ h => nomatch h.1) (g_on 28 (by kernel_rfl) rfl) (fun _ hS => r_mv (v := .pointer _) rfl) H.only ?_
    refine t_take 25 rfl (by kernel_rfl) (by kernel_rfl) (by kernel_rfl) rfl (fun _ _ _ _ h => nomatch h.1) (g_on 28 (by kernel_rfl) rfl) (fun _ hS => r_fa0 rfl fo55_7) H.only ?_
    refine t_take 26 rfl (by kernel_rfl) (by kernel_rfl) (by kernel_rfl) rfl (fun _ _ _ _ h => nomatch h.1) (g_on 28 (by kernel_rfl) rfl) (fun _ hS => r_lo (HR.same hS) 0 rfl rfl rfl ag4) H.only ?_
    refine t_up1 24 (by kernel_rfl) ?_
    refine up_mk rfl ?_
    refine s_call (g_on 28 (by kernel_rfl) rfl) (nDead g d _ (HD.same (HR.only.trans H.only)).ents) (ca28 rfl) ?_
    rintro e W1 ⟨rfl, H'⟩
    refine ⟨_, rfl, ?_⟩
    have H := H.same H'; clear H'
    refine k_nil ?_
    refine t_on H.only ?_
    refine t_take 27 rfl (by kernel_rfl) (by kernel_rfl) (by kernel_rfl) rfl (fun _ _ _ _ h => nomatch h.1) (g_on 28 (by kernel_rfl) rfl) (fun _ hS => r_bneq rfl rfl rfl Try.underlying4) H.only ?_
    refine t_take 28 rfl (by kernel_rfl) (by kernel_rfl) (by kernel_rfl) rfl (fun _ _ _ _ h => nomatch h.1) rfl (fun _ hS => r_pkF (v := .bool _) rfl rfl) H.only ?_
    refine t_take 29 rfl (by kernel_rfl) (by kernel_rfl) (by kernel_rfl) rfl (fun _ _ _ _ h => nomatch h.1) rfl (fun _ hS => r_mv (v := .bool _) rfl) H.only ?_
    refine t_take 30 rfl (by kernel_rfl) (by kernel_rfl) (by kernel_rfl) rfl (fun _ _ _ _ h => nomatch h.1) (g_on 35 (by kernel_rfl) rfl) (fun _ hS => r_mv (v := .pointer _) rfl) H.only ?_
    refine t_take 32 rfl (by kernel_rfl) (by kernel_rfl) (by kernel_rfl) rfl (fun _ _ _ _ h => nomatch h.1) (g_on 35 (by kernel_rfl) rfl) (fun _ hS => r_la (HR.same hS) 0 rfl rfl rfl ag55 sz55) H.only ?_
    refine t_up1 31 (by kernel_rfl) ?_
    refine up_mk rfl ?_
    refine s_call (g_on 35 (by kernel_rfl) rfl) (nDirty' g d m _ (HD.same (HR.only.trans H.only)).ents ho (by omega)) (ca27 rfl) ?_
    rintro e W1 ⟨X1, y1, z1, rfl, hX1, H'⟩
    refine ⟨_, rfl, ?_⟩
    have H := H.more H'; clear H'; simp only [List.cons_append, List.nil_append] at H
    refine k_nil ?_
    refine t_on H.only ?_
    refine t_up1 33 (by kernel_rfl) ?_
    refine up_mk rfl ?_
    refine s_call (g_on 35 (by kernel_rfl) rfl) (hDi _ (hr.dirty.later (HR.only.trans H.only) (by simp)) hd (by omega)) (ca91 rfl) ?_
    rintro e W1 ⟨X2, y2, z2, rfl, hX2, H'⟩
    refine ⟨_, rfl, ?_⟩
    have H := H.more H'; clear H'; simp only [List.cons_append, List.nil_append] at H
    refine k_nil ?_
    refine t_on H.only ?_
    refine t_up1 34 (by kernel_rfl) ?_
    refine up_mk rfl ?_
    refine s_call (g_on 35 (by kernel_rfl) rfl) (rInts X1 X2 _ _ _ _ _ _ _ (fun h => ⟨y1, 0, hX1 h, by simp, H.reads0 1 rfl⟩) (fun h => ⟨y2, 0, hX2 h, by simp, H.reads0 0 rfl⟩) rfl rfl (by omega)) (ca90 rfl) ?_
    rintro e W1 ⟨rfl, H'⟩
    refine ⟨_, rfl, ?_⟩
    rw [same_self]; have H := H.same H'; clear H'
    refine k_nil ?_
    refine t_on H.only ?_
    refine t_take 35 rfl (by kernel_rfl) (by kernel_rfl) (by kernel_rfl) rfl (fun _ _ _ _ h => nomatch h.1) (g_on 35 (by kernel_rfl) rfl) (fun _ hS => r_notT rfl) H.only ?_
    refine t_take 36 rfl (by kernel_rfl) (by kernel_rfl) (by kernel_rfl) rfl (fun _ _ _ _ h => nomatch h.1) rfl (fun _ hS => r_pkF (v := .bool _) rfl rfl) H.only ?_
    refine t_take 37 rfl (by kernel_rfl) (by kernel_rfl) (by kernel_rfl) rfl (fun _ _ _ _ h => nomatch h.1) rfl (fun _ hS => r_mv (v := .bool _) rfl) H.only ?_
    refine t_take 38 rfl (by kernel_rfl) (by kernel_rfl) (by kernel_rfl) rfl (fun _ _ _ _ h => nomatch h.1) (g_on 43 (by kernel_rfl) rfl) (fun _ hS => r_mv (v := .pointer _) rfl) H.only ?_
    refine t_take 40 rfl (by kernel_rfl) (by kernel_rfl) (by kernel_rfl) rfl (fun _ _ _ _ h => nomatch h.1) (g_on 43 (by kernel_rfl) rfl) (fun _ hS => r_fa0 rfl fo55_1) H.only ?_
    refine t_take 41 rfl (by kernel_rfl) (by kernel_rfl) (by kernel_rfl) rfl (fun _ _ _ _ h => nomatch h.1) (g_on 43 (by kernel_rfl) rfl) (fun _ hS => r_lo (HR.same hS) 0 rfl rfl rfl ag52) H.only ?_
    refine t_up1 39 (by kernel_rfl) ?_
    refine up_mk rfl ?_
    refine s_call (g_on 43 (by kernel_rfl) rfl) (nAll g d m _ (HD.same (HR.only.trans H.only)).ents ho (by omega)) (ca47 rfl) ?_
    rintro e W1 ⟨y3, z3, rfl, _, H'⟩
    refine ⟨_, rfl, ?_⟩
    have H := H.more H'; clear H'; simp only [List.cons_append, List.nil_append] at H
    refine k_nil ?_
    refine t_on H.only ?_
    refine t_up1 42 (by kernel_rfl) ?_
    refine up_mk rfl ?_
    refine s_call (g_on 43 (by kernel_rfl) rfl) (rAll A1 m c1 d.last _ (hr.last.later (HR.only.trans H.only) (by simp)) hl (by omega)) (ca43 rfl) ?_
    rintro e W1 ⟨X4, y4, z4, rfl, hX4, H'⟩
    refine ⟨_, rfl, ?_⟩
    have H := H.more H'; clear H'; simp only [List.cons_append, List.nil_append] at H
    refine k_nil ?_
    refine t_on H.only ?_
    refine t_up1 43 (by kernel_rfl) ?_
    refine up_mk rfl ?_
    refine s_call (g_on 43 (by kernel_rfl) rfl) (rSame _ X4 _ _ _ _ _ _ _ (fun h => ⟨y3, 0, rfl, by simp, H.reads0 1 rfl⟩) (fun h => ⟨y4, 0, hX4 (by omega), by simp, H.reads0 0 rfl⟩) hl hl (by omega)) (ca42 rfl) ?_
    rintro e W1 ⟨rfl, H'⟩
    refine ⟨_, rfl, ?_⟩
    rw [same_self]; have H := H.same H'; clear H'
    refine k_nil ?_
    refine t_on H.only ?_
    refine t_take 44 rfl (by kernel_rfl) (by kernel_rfl) (by kernel_rfl) rfl (fun _ _ _ _ h => nomatch h.1) (g_on 43 (by kernel_rfl) rfl) (fun _ hS => r_notT rfl) H.only ?_
    refine t_take 45 rfl (by kernel_rfl) (by kernel_rfl) (by kernel_rfl) rfl (fun _ _ _ _ h => nomatch h.1) rfl (fun _ hS => r_pkF (v := .bool _) rfl rfl) H.only ?_
    refine t_done (by kernel_rfl) ?_
    have H := HR.more H; clear HR; simp only [List.cons_append, List.nil_append] at H
    refine k_met ?_
    exact ⟨rfl, rfl, rfl, H.drop.drop.drop.drop⟩
  clear H
  rintro f' W ⟨h0, h3, h51, H⟩
  obtain ⟨f', rfl⟩ := live3 h0 h3 h51
  clear h0 h3 h51
  refine c_norm ?_
  refine k_f rfl ?_
  refine k_skip ?_
  refine c_norm ?_
  refine k_seq ?_
  refine k_seq ?_
  refine k_rg ?_
  refine s_run rfl rfl (r_as (v := .int _ _) rfl) ?_
  refine k_nil ?_
  refine c_norm ?_
  refine k_b ?_
  refine k_loop (fun q f W => ∃ (k : Nat), k ≤ 8 * m ∧ q = 8 * m - k ∧ f 0 = ptr g.p ∧ f 3 = ptr p3 ∧ f 5 = .int .i64 k ∧ Heap w [] [blk p3 [.slice A0 m c0, .slice A1 m c1, .slice A2 m c2, .slice A3 m c3, .slice A4 m c4, .int .i64 d.steps, .int .i64 rf0, .bool d.dead] 55] W) (8 * m) ⟨0, by omega, rfl, rfl, rfl, rfl, H⟩ ?_
  clear H
  rintro q f W ⟨k, hk, rfl, h0, h3, h5, H⟩
  obtain ⟨f, rfl⟩ := live3 h0 h3 h5
  clear h0 h3 h5
  by_cases hlt : k < 8 * m
  · refine k_seq ?_
    refine k_seq ?_
    refine k_rg ?_
    refine s_run rfl rfl (r_mv (v := .int _ _) rfl) ?_
    refine s_run rfl rfl (r_fa0 rfl fo55_0) ?_
    refine s_run rfl rfl (r_lo H 0 rfl rfl rfl ag52) ?_
    refine s_run rfl rfl (r_len rfl Try.underlying52) ?_
    refine s_run rfl rfl (r_mul rfl rfl (wI (by omega))) ?_
    refine s_run rfl rfl (r_lssT rfl rfl (by omega)) ?_
    refine k_nil ?_
    refine c_norm ?_
    refine k_t rfl ?_
    refine k_skip ?_
    refine c_norm ?_
    refine k_seq ?_
    refine k_b ?_
    refine k_seq ?_
    refine k_q mixed (by kernel_rfl) H ?_
    refine q_run rfl rfl (fun _ H => r_mv (v := .pointer _) rfl) ?_
    refine q_run rfl rfl (fun _ H => r_mv (v := .int _ _) rfl) ?_
    refine q_call rfl rfl (fun _ H => nGet g d k _ (HD.same H.only).ents) (ca25 rfl) ?_
    refine q_run rfl rfl (fun _ H => r_fa0 rfl fo55_0) ?_
    refine q_run rfl rfl (fun _ H => r_lo H 0 rfl rfl rfl ag52) ?_
    refine q_run rfl rfl (fun _ H => r_mv (v := .int _ _) rfl) ?_
    refine q_call rfl rfl (fun _ H => rGet A0 m c0 k d.cache _ (hr.now.later H.only (by simp)) hc (by omega)) (ca92 rfl) ?_
    refine q_run rfl rfl (fun _ H => r_neqF rfl rfl (by omega)) ?_
    refine q_run rfl rfl (fun _ H => r_mv (v := .bool _) rfl) ?_
    refine q_run rfl (g_on 68 (by kernel_rfl) rfl) (fun _ H => r_mv (v := .pointer _) rfl) ?_
    refine q_run rfl (g_on 68 (by kernel_rfl) rfl) (fun _ H => r_mv (v := .int _ _) rfl) ?_
    refine q_call rfl (g_on 68 (by kernel_rfl) rfl) (fun _ H => nLasting g d k _ (HD.same H.only).ents) (ca26 rfl) ?_
    refine q_run rfl (g_on 68 (by kernel_rfl) rfl) (fun _ H => r_fa0 rfl fo55_1) ?_
    refine q_run rfl (g_on 68 (by kernel_rfl) rfl) (fun _ H => r_lo H 0 rfl rfl rfl ag52) ?_
    refine q_run rfl (g_on 68 (by kernel_rfl) rfl) (fun _ H => r_mv (v := .int _ _) rfl) ?_
    refine q_call rfl (g_on 68 (by kernel_rfl) rfl) (fun _ H => rGet A1 m c1 k d.last _ (hr.last.later H.only (by simp)) hl (by omega)) (ca92 rfl) ?_
    refine q_run rfl (g_on 68 (by kernel_rfl) rfl) (fun _ H => r_neqF rfl rfl (by omega)) ?_
    refine q_run rfl rfl (fun _ H => r_pkF (v := .bool _) rfl rfl) ?_
    refine q_nil ?_
    intro _ H'; clear H; have H := H'; clear H'
    refine c_norm ?_
    refine k_f rfl ?_
    refine k_skip ?_
    refine b_norm ?_
    refine c_norm ?_
    refine k_rg ?_
    refine s_run rfl rfl (r_mv (v := .int _ _) rfl) ?_
    refine s_run rfl rfl (r_add rfl rfl (wI (by omega))) ?_
    refine s_run rfl rfl (r_as (v := .int _ _) rfl) ?_
    refine k_nil ?_
    refine c_round ?_
    refine ⟨_, _, ?_, rfl, k + 1, by omega, rfl, rfl, rfl, rfl, H⟩
    omega
  · refine k_seq ?_
    refine k_seq ?_
    refine k_rg ?_
    refine s_run rfl rfl (r_mv (v := .int _ _) rfl) ?_
    refine s_run rfl rfl (r_fa0 rfl fo55_0) ?_
    refine s_run rfl rfl (r_lo H 0 rfl rfl rfl ag52) ?_
    refine s_run rfl rfl (r_len rfl Try.underlying52) ?_
    refine s_run rfl rfl (r_mul rfl rfl (wI (by omega))) ?_
    refine s_run rfl rfl (r_lssF rfl rfl (by omega)) ?_
    refine k_nil ?_
    refine c_norm ?_
    refine k_f rfl ?_
    refine k_exit ?_
    refine c_exit ?_
    refine c_exit ?_
    refine b_hit ?_
    refine c_norm ?_
    refine k_seq ?_
    refine k_rg ?_
    refine s_run rfl rfl (r_as (v := .bool _) rfl) ?_
    refine k_nil ?_
    refine c_norm ?_
    refine k_ret ?_
    refine fin1r (v := .bool _) rfl rfl ?_
    exact ⟨rfl, H.only⟩
end Go.Proofs.Ytmekhdclnhhhbaa
end

section
namespace Go.Proofs.Ytmekhdclnhhhbaa
set_option linter.unusedSimpArgs false
set_option linter.unusedVariables false
open Go.RowKit
/-- values of one cell -/
inductive C1 where
  | i (k : IntKind) (z : Int)
  | b (q : Bool)
  | s (A : Option Addr) (n c : Nat)
  | p (A : Option Addr)
def C1.v : C1 → Value
  | .i k z => .int k z
  | .b q => .bool q
  | .s A n c => .slice A n c
  | .p A => .pointer A
theorem C1.one (x : C1) : x.v.oneCell' = true := by cases x <;> rfl
theorem Sees.row {α : Type} {enc : α → Value} {w : World} {F : List Nat} {A : Option Addr} {n : Nat} {xs : List α} (h : Sees enc w F A xs) (hl : xs.length = n) : RowAt w w.heap.size A n (xs.map enc) :=
  ⟨by simpa using hl, fun h0 => by
    obtain ⟨b, o, rfl, _, hr⟩ := h (by omega)
    refine ⟨b, o, rfl, ?_, fun j u hu => ?_⟩
    · have := hr 0 xs[0] (List.getElem?_eq_getElem (by omega))
      exact cell_lt this
    · rw [List.getElem?_map] at hu
      cases hj : xs[j]? with
      | none => rw [hj] at hu; cases hu
      | some z => rw [hj] at hu; rw [hr j z hj]; simpa using hu⟩
theorem own_heap {w w' : World} {size n : Nat} {v : Value} {xs : List Value} {T : TypeId} (ho : w'.ownsRow w.heap.size T size v n xs) (hb : Below w.heap.size w w') :
    ∃ A c, v = .slice A n c ∧ Heap w [] [ownN size (.slice A n c) n xs T] w' := by
  obtain ⟨A, c, rfl⟩ : ∃ A c, v = .slice A n c := by
    rcases ho.2 with ⟨rfl, h0⟩ | ⟨g, cap, cur, rfl, _⟩
    · exact ⟨none, 0, by rw [h0]⟩
    · exact ⟨_, _, rfl⟩
  refine ⟨A, c, rfl, ?_, ?_, ?_, Only.of_below hb _⟩
  · intro E hE; rw [List.mem_singleton.1 hE]; exact own_mono ho (Nat.zero_le _)
  · simpa [ids, ownN] using nodup_opt _
  · intro i hi
    right
    simp [ids, ownN] at hi
    exact ownBlock_ge ho i hi
theorem Heap.grp_snoc {w0 W : World} {F : List Nat} {E : Ent} {A L : List Ent} (H : Heap w0 F (E :: grp A :: L) W) : Heap w0 F (grp (A ++ [E]) :: L) W := by
  have hnd := H.nd
  have e1 : ids (E :: grp A :: L) = E.ids ++ (ids A ++ ids L) := by simp [ids, grp]
  have e2 : ids (grp (A ++ [E]) :: L) = (ids A ++ E.ids) ++ ids L := by simp [ids, grp]
  have hp : (ids (E :: grp A :: L)).Perm (ids (grp (A ++ [E]) :: L)) := by
    rw [e1, e2, ← List.append_assoc]; exact List.perm_append_comm.append_right _
  have hnd2 := hp.nodup_iff.1 hnd
  have hA : Ents A W := H.ok (grp A) (by simp)
  refine ⟨fun X hX => ?_, hnd2, fun i hi => H.own i (hp.mem_iff.2 hi), H.only⟩
  rcases List.mem_cons.1 hX with rfl | hX
  · refine ⟨fun Y hY => ?_, ?_⟩
    · rcases List.mem_append.1 hY with hY | hY
      · exact hA.1 Y hY
      · rw [List.mem_singleton.1 hY]; exact H.ok E (by simp)
    · rw [e2] at hnd2
      have := (List.nodup_append.1 hnd2).1
      simpa [ids] using this
  · exact H.ok X (by simp [hX])
theorem Heap.grp_nil {w0 W : World} {F : List Nat} {L : List Ent} (H : Heap w0 F L W) : Heap w0 F (grp [] :: L) W := by
  refine ⟨fun X hX => ?_, by simpa [ids, grp] using H.nd, fun i hi => H.own i (by simpa [ids, grp] using hi), H.only⟩
  rcases List.mem_cons.1 hX with rfl | hX
  · exact ⟨by simp, by simp [ids]⟩
  · exact H.ok X hX
section
variable {P : Program} {n : Nat} {f : Nat → Value} {W w0 : World} {dst : Option Tmp} {ty : TypeId} {pos : String} {af : Array Edge} {g : Option (Nat × Bool)} {x y : Operand} {t t2 e : TypeId} {v : Value}
end
section
variable {P : Program} {ops : Array Oper} {rest : List Oper} {n k k2 : Nat} {f : Nat → Value} {W w0 : World} {F : List Nat} {L : List Ent} {Q : Exit → Act → World → Prop} {ty ty2 : TypeId} {pos pos2 : String} {af af2 : Array Edge} {g : Option (Nat × Bool)} {x y s : Operand} {v u : Value} {t e : TypeId}
end
end Go.Proofs.Ytmekhdclnhhhbaa
end

section
namespace Go.Proofs.Ytmekhdclnhhhbaa
set_option linter.unusedSimpArgs false
set_option linter.unusedVariables false
open Go.RowKit
theorem lv8 {f : Nat → Value} {k1 k2 k3 k4 k5 k6 k7 k8 : Nat} {v1 v2 v3 v4 v5 v6 v7 v8 : Value} (h1 : f k1 = v1) (h2 : f k2 = v2) (h3 : f k3 = v3) (h4 : f k4 = v4) (h5 : f k5 = v5) (h6 : f k6 = v6) (h7 : f k7 = v7) (h8 : f k8 = v8) : ∃ g, f = upd (upd (upd (upd (upd (upd (upd (upd g k1 v1) k2 v2) k3 v3) k4 v4) k5 v5) k6 v6) k7 v7) k8 v8 := ⟨f, by rw [upd_same h1, upd_same h2, upd_same h3, upd_same h4, upd_same h5, upd_same h6, upd_same h7, upd_same h8]⟩
section
variable {P : Program} {W : World}
end
section
variable {P : Program} {n : Nat} {f : Nat → Value} {W w0 : World} {dst : Option Tmp} {ty : TypeId} {pos : String} {af : Array Edge} {g : Option (Nat × Bool)} {x y : Operand} {t t2 e : TypeId} {v : Value} {k k2 : IntKind} {a b : Int}
end
section
variable {P : Program} {ops : Array Oper} {rest : List Oper} {n k k2 : Nat} {f : Nat → Value} {W w0 : World} {F : List Nat} {L : List Ent} {Q : Exit → Act → World → Prop} {ty ty2 : TypeId} {pos pos2 : String} {af af2 : Array Edge} {g : Option (Nat × Bool)} {x y s : Operand} {v u : Value} {t tn e : TypeId}
end
end Go.Proofs.Ytmekhdclnhhhbaa
end

section
namespace Go.Proofs.Ytmekhdclnhhhbaa.Xp
set_option linter.unusedVariables false
open Go Go.RowKit
/-- so many ways of so many lines, at most 2^40 -/
def wy (c : Int) : Nat → Int
  | 0 => 1
  | k + 1 => if 1099511627776 / c < wy c k then 1099511627776 else wy c k * c
theorem wy_out (c : Int) (k : Nat) (h : 1099511627776 / c < wy c k) : wy c (k + 1) = 1099511627776 := by rw [wy, if_pos h]
theorem wy_in (c : Int) (k : Nat) (h : ¬ 1099511627776 / c < wy c k) : wy c (k + 1) = wy c k * c := by rw [wy, if_neg h]
theorem wy_bd (c : Int) (h : 1 ≤ c) (k : Nat) : 1 ≤ wy c k ∧ wy c k ≤ 1099511627776 := by
  induction k with
  | zero => simp [wy]
  | succ k ih =>
    by_cases hc : 1099511627776 / c < wy c k
    · rw [wy_out c k hc]; omega
    · rw [wy_in c k hc]
      have h1 : wy c k ≤ 1099511627776 / c := by omega
      have h2 := (Int.le_ediv_iff_mul_le (by omega)).1 h1
      have h3 : 1 * 1 ≤ wy c k * c := Int.mul_le_mul ih.1 h (by omega) (by omega)
      omega
theorem wy_one (k : Nat) : wy 1 k = 1 := by
  induction k with
  | zero => rfl
  | succ k ih => rw [wy_in 1 k (by rw [ih]; omega), ih]; rfl
theorem wy_top (c : Int) (h : 2 ≤ c) (k m : Nat) (hk : wy c k = 1099511627776) (hm : k ≤ m) : wy c m = 1099511627776 := by
  induction m with
  | zero => obtain rfl : k = 0 := by omega
            exact hk
  | succ m ih =>
    rcases Nat.lt_or_ge m k with h1 | h1
    · obtain rfl : k = m + 1 := by omega
      exact hk
    · apply wy_out
      rw [ih h1]
      exact Int.ediv_lt_of_lt_mul (by omega) (by omega)
theorem wy_ge (c : Int) (h : 2 ≤ c) (k : Nat) (hk : k ≤ 40) : (2 ^ k : Int) ≤ wy c k ∨ wy c k = 1099511627776 := by
  induction k with
  | zero => left; simp [wy]
  | succ k ih =>
    rcases ih (by omega) with h1 | h1
    · by_cases hc : 1099511627776 / c < wy c k
      · right; exact wy_out c k hc
      · left
        rw [wy_in c k hc, Int.pow_succ]
        exact Int.mul_le_mul h1 h (by omega) (by have := wy_bd c (by omega) k; omega)
    · right; exact wy_top c h k (k + 1) h1 (by omega)
theorem wy_40 (c : Int) (h : 2 ≤ c) : wy c 40 = 1099511627776 := by
  have hb := wy_bd c (by omega) 40
  rcases wy_ge c h 40 (by omega) with h1 | h1
  · have : (2 ^ 40 : Int) = 1099511627776 := by decide
    omega
  · exact h1
theorem wy_41 (c : Int) (h : 1 ≤ c) (m : Nat) (hm : 41 ≤ m) : wy c 41 = wy c m := by
  by_cases hc : c = 1
  · subst hc; rw [wy_one, wy_one]
  · rw [wy_top c (by omega) 40 41 (wy_40 c (by omega)) (by omega), wy_top c (by omega) 40 m (wy_40 c (by omega)) (by omega)]
def ways (l c : Int) : Int := if l < 0 ∨ c < 1 then 0 else wy c l.toNat
theorem ways_out (l c : Int) (h : l < 0 ∨ c < 1) : ways l c = 0 := by unfold ways; rw [if_pos h]
theorem ways_in (l c : Int) (h : 0 ≤ l) (h2 : 1 ≤ c) : ways l c = wy c l.toNat := by unfold ways; rw [if_neg (by omega)]
/-- k behind so many digits -/
def kd (c k : Int) : Nat → Int
  | 0 => k
  | i + 1 => kd c k i / c
theorem kd_succ (c k : Int) (i : Nat) : kd c k (i + 1) = kd c k i / c := rfl
theorem kd_bd (c k : Int) (h : 1 ≤ c) (hk : 0 ≤ k) (i : Nat) : 0 ≤ kd c k i ∧ kd c k i ≤ k := by
  induction i with
  | zero => simp [kd]; omega
  | succ i ih =>
    rw [kd_succ]
    exact ⟨Int.ediv_nonneg ih.1 (by omega), Int.le_trans (Int.ediv_le_self _ ih.1) ih.2⟩
def dig (c k : Int) (i : Nat) : Int := kd c k i % c
theorem dig_bd (c k : Int) (h : 1 ≤ c) (i : Nat) : 0 ≤ dig c k i ∧ dig c k i < c := ⟨Int.emod_nonneg _ (by omega), Int.emod_lt_of_pos _ (by omega)⟩
def digs (c k : Int) (n : Nat) : List Int := (List.range n).map (dig c k)
theorem digs_len (c k : Int) (n : Nat) : (digs c k n).length = n := by simp [digs]
theorem digs_succ (c k : Int) (n : Nat) : digs c k (n + 1) = digs c k n ++ [dig c k n] := by simp [digs, List.range_succ]
def okC (l c k : Int) : Prop := 0 ≤ l ∧ l ≤ 65536 ∧ 1 ≤ c ∧ c ≤ 256 ∧ 0 ≤ k
instance (l c k : Int) : Decidable (okC l c k) := by unfold okC; infer_instance
def choice (l c k : Int) : List Int := if okC l c k then digs c k l.toNat else []
theorem choice_out (l c k : Int) (h : ¬ okC l c k) : choice l c k = [] := by unfold choice; rw [if_neg h]
theorem choice_in (l c k : Int) (h : okC l c k) : choice l c k = digs c k l.toNat := by unfold choice; rw [if_pos h]
/-- a list that is filled from its head on -/
theorem set_fill {α : Type} (xs : List α) (z x : α) (n i : Nat) (hx : xs.length = i) (h : i < n) : (xs ++ List.replicate (n - i) z).set i x = (xs ++ [x]) ++ List.replicate (n - (i + 1)) z := by
  subst hx
  rw [List.set_append_right _ _ (Nat.le_refl _), Nat.sub_self]
  obtain ⟨m, hm⟩ : ∃ m, n - xs.length = m + 1 := ⟨n - xs.length - 1, by omega⟩
  rw [hm, List.replicate_succ, List.set_cons_zero, show n - (xs.length + 1) = m from by omega]
  simp
theorem fill_get {α : Type} (xs : List α) (z : α) (n i : Nat) (hx : xs.length = i) (h : i < n) : (xs ++ List.replicate (n - i) z)[i]? = some z := by
  subst hx
  rw [List.getElem?_append_right (Nat.le_refl _), Nat.sub_self, List.getElem?_replicate, if_pos (by omega)]
/-- the number of digits, the lowest first -/
def nval (c : Int) : List Int → Int
  | [] => 0
  | d :: l => d + c * nval c l
def okD (c : Int) (l : List Int) : Prop := ∀ d ∈ l, 0 ≤ d ∧ d < c
/-- the number that the page says; -1: none -/
def cOk (c : Int) : Prop := 1 ≤ c ∧ c ≤ 256
instance (c : Int) : Decidable (cOk c) := by unfold cOk; infer_instance
instance (c : Int) (l : List Int) : Decidable (okD c l) := by unfold okD; infer_instance
def numOk (c : Int) (l : List Int) : Prop := cOk c ∧ okD c l ∧ nval c l ≤ 1099511627776
instance (c : Int) (l : List Int) : Decidable (numOk c l) := by unfold numOk; infer_instance
def number (c : Int) (l : List Int) : Int := if numOk c l then nval c l else -1
/-- what the code keeps: the number, and what is over -/
def over (w n : Int) (i : Nat) : Int := (i : Int) * w % n
/-- how many are told -/
def many (v m : Int) : Int := min (min v m) 4096
theorem many_bd (v m : Int) (h : 1 ≤ v) (h2 : 1 ≤ m) : 1 ≤ many v m ∧ many v m ≤ 4096 ∧ many v m ≤ v ∧ many v m ≤ m := by unfold many; omega
end Go.Proofs.Ytmekhdclnhhhbaa.Xp
end

section
namespace Go.Proofs.Ytmekhdclnhhhbaa
open Go.RowKit
set_option linter.unusedVariables false
set_option maxHeartbeats 400000
set_option maxRecDepth 100000
theorem xWays_any (l c : Int) (w : World) (l1 : -9223372036854775808 ≤ l) (l2 : l ≤ 9223372036854775807) (c1 : -9223372036854775808 ≤ c) (c2 : c ≤ 9223372036854775807) :
    Calls Try.prog 89 #[.int .i64 l, .int .i64 c] w fun e w' => e = .returned (.int .i64 (Xp.ways l c)) ∧ w = w' := by
  by_cases a : l < 0
  · have e := Lib.hid (Xp.ways_out l c (.inl a))
    go_enter Try.func89, Try.ntmps89
    go_wp2
    go_ret
    exact ⟨ret_int e.out.symm, rfl⟩
  by_cases b : c < 1
  · have e := Lib.hid (Xp.ways_out l c (.inr b))
    go_enter Try.func89, Try.ntmps89
    go_wp2
    go_ret
    exact ⟨ret_int e.out.symm, rfl⟩
  have e := Lib.hid (Xp.ways_in l c (by omega) (by omega))
  go_enter Try.func89, Try.ntmps89
  go_wp2
  go_loop [5, 6] (fun n t => ∃ k : Nat, k ≤ l.toNat ∧ t = .int .i64 k ∧ n = .int .i64 (Xp.wy c k)) (fun _ t => l.toNat - (intOf t).toNat)
  case atStart => exact ⟨0, by omega, rfl, rfl⟩
  case round =>
    obtain ⟨k, hk, rfl, rfl⟩ := hrel
    have hb := Xp.wy_bd c (by omega) k
    by_cases hlt : (k : Int) < l
    · by_cases h2 : 1 < c
      · by_cases h3 : 1099511627776 / c < Xp.wy c k
        · have ho := Xp.wy_out c k h3
          have ht := Lib.hid (Xp.wy_top c (by omega) (k + 1) l.toNat ho (by omega))
          clear ho
          go_wp2
          go_ret
          exact ⟨ret_int (by rw [e.out, ht.out]), rfl⟩
        · have hi := Xp.wy_in c k h3
          have hb2 := Xp.wy_bd c (by omega) (k + 1)
          rw [hi] at hb2
          have hi := Lib.hid hi
          go_wp2
          go_round
          case rel => exact ⟨k + 1, by omega, by go_num, by rw [hi.out]⟩
          case measure => simp [intOf]; omega
      · obtain rfl : c = 1 := by omega
        have h1 := Lib.hid (Xp.wy_one k)
        have h1' := Lib.hid (Xp.wy_one l.toNat)
        go_wp2
        go_ret
        exact ⟨ret_int (by rw [e.out, h1.out, h1'.out]), rfl⟩
    · go_wp2
      go_ret
      exact ⟨ret_int (by rw [e.out, show l.toNat = k from by omega]), rfl⟩
theorem rxWays_any (l c : Int) (w : World) (l1 : -9223372036854775808 ≤ l) (l2 : l ≤ 9223372036854775807) (c1 : -9223372036854775808 ≤ c) (c2 : c ≤ 9223372036854775807) :
    Calls Try.prog 54 #[.int .i64 l, .int .i64 c] w fun e w' => e = .returned (.int .i64 (Xp.ways l c)) ∧ w = w' := by
  by_cases a : l < 0
  · have e := Lib.hid (Xp.ways_out l c (.inl a))
    go_enter Try.func54, Try.ntmps54
    go_wp2
    go_ret
    exact ⟨ret_int e.out.symm, rfl⟩
  by_cases b : c < 1
  · have e := Lib.hid (Xp.ways_out l c (.inr b))
    go_enter Try.func54, Try.ntmps54
    go_wp2
    go_ret
    exact ⟨ret_int e.out.symm, rfl⟩
  have e := Lib.hid (Xp.ways_in l c (by omega) (by omega))
  go_enter Try.func54, Try.ntmps54
  go_wp2
  go_loop [5, 6] (fun n t => ∃ k : Nat, k ≤ l.toNat ∧ k ≤ 41 ∧ t = .int .i64 k ∧ n = .int .i64 (Xp.wy c k)) (fun _ t => 41 - (intOf t).toNat)
  case atStart => exact ⟨0, by omega, by omega, rfl, rfl⟩
  case round =>
    obtain ⟨k, hk, hk2, rfl, rfl⟩ := hrel
    have hb := Xp.wy_bd c (by omega) k
    by_cases hlt : (k : Int) < l ∧ k < 41
    · obtain ⟨hlt, h4⟩ := hlt
      by_cases h3 : 1099511627776 / c < Xp.wy c k
      · have ho := Xp.wy_out c k h3
        have hc : 2 ≤ c := by
          rcases (show c = 1 ∨ 2 ≤ c from by omega) with rfl | h
          · rw [Xp.wy_one] at h3; omega
          · exact h
        have ht := Lib.hid (Xp.wy_top c (by omega) (k + 1) l.toNat ho (by omega))
        clear ho
        go_wp2
        all_goals
          go_ret
          exact ⟨ret_int (by rw [e.out, ht.out]), rfl⟩
      · have hi := Xp.wy_in c k h3
        have hb2 := Xp.wy_bd c (by omega) (k + 1)
        rw [hi] at hb2
        have hi := Lib.hid hi
        go_wp2
        all_goals
          go_round
          case rel => exact ⟨k + 1, by omega, by omega, by go_num, by rw [hi.out]⟩
          case measure => simp [intOf]; omega
    · have hx : Xp.wy c l.toNat = Xp.wy c k := by
        by_cases h4 : k = 41
        · rw [h4, Xp.wy_41 c (by omega) l.toNat (by omega)]
        · rw [show l.toNat = k from by omega]
      have hx := Lib.hid hx
      have hlt' : l ≤ k ∨ k = 41 := by omega
      clear hlt
      go_wp2
      all_goals
        go_ret
        exact ⟨ret_int (by rw [e.out, hx.out]), rfl⟩
end Go.Proofs.Ytmekhdclnhhhbaa
end

section
namespace Go.Proofs.Ytmekhdclnhhhbaa
open Go.RowKit
set_option linter.unusedVariables false
set_option maxHeartbeats 400000
set_option maxRecDepth 100000
/-- the call returns a row of its own, these integers -/
def OwnInts (k : IntKind) (T : TypeId) (xs : List Int) (w : World) (e : Ending) (w' : World) : Prop :=
  ∃ v, e = .returned v ∧ w'.ownsRow w.heap.size T 1 v xs.length (xs.map (Value.int k)) ∧ Below w.heap.size w w'
theorem OwnInts.mk {k : IntKind} {T : TypeId} {xs : List Int} {w : World} {e : Ending} {w' : World} (v : Value) (he : e = .returned v) (n : Nat) (hn : xs.length = n) (ho : w'.ownsRow w.heap.size T 1 v n (xs.map (Value.int k))) (hb : Below w.heap.size w w') : OwnInts k T xs w e w' :=
  ⟨v, he, by rw [hn]; exact ho, hb⟩
theorem OwnInts.nil {k : IntKind} {T : TypeId} {xs : List Int} {w : World} {w' : World} (hx : xs = []) (hb : Below w.heap.size w w') : OwnInts k T xs w (.returned (.slice none 0 0)) w' := by
  subst hx; exact ⟨_, rfl, World.ownsRow_nil _ _ _ _, hb⟩
theorem mc_ints (k : IntKind) (n : Nat) : (madeCells (Value.int k 0).cells (n * 1)).toList = ([] ++ List.replicate (n - 0) (0 : Int)).map (Value.int k) := by
  have : (Value.int k 0).cells = #[.int k 0] := rfl
  rw [this, toList_madeCells_one]; simp
theorem xChoice_any (l c k : Int) (w : World) (l1 : -9223372036854775808 ≤ l) (l2 : l ≤ 9223372036854775807) (c1 : -9223372036854775808 ≤ c) (c2 : c ≤ 9223372036854775807) (k1 : -9223372036854775808 ≤ k) (k2 : k ≤ 9223372036854775807) :
    Calls Try.prog 88 #[.int .i64 l, .int .i64 c, .int .i64 k] w (OwnInts .u8 5 (Xp.choice l c k) w) := by
  by_cases h : Xp.okC l c k
  · obtain ⟨i0, hi0, hz0, hz1, hz2⟩ := info_parts info_u8
    have e := Lib.hid (Xp.choice_in l c k h)
    obtain ⟨a1, a2, a3, a4, a5⟩ := h
    obtain ⟨n, rfl⟩ := Int.eq_ofNat_of_zero_le a1
    go_enter Try.func88, Try.ntmps88
    go_wp2_with (first | (at_make; refine wpList_make_full (P := Try.prog) _ rfl _ _ 49 rfl w.heap.size 5 i0 (.int .u8 0) 1 Try.underlying49 hi0 hz0 hz1 .i64 .i64 _ _ n rfl rfl rfl rfl (by rw [hz2]; omega) (by unfold maxLen; omega) (Nat.le_refl _) ?_; intro w1 hown0 hg0))
    have hb0 : Below w.heap.size w w1 := (Below.refl _ _).grown hg0 (Nat.le_refl _) (by intro k hk; cases hk)
    rw [mc_ints .u8 n] at hown0
    clear hg0
    go_loopw [2, 31] (fun kk t wr => ∃ j : Nat, j ≤ n ∧ t = .int .i64 j ∧ kk = .int .i64 (Xp.kd c k j) ∧ wr.ownsRow w.heap.size 5 1 (.slice (some ⟨w.heap.size, 0, none⟩) n n) n ((Xp.digs c k j ++ List.replicate (n - j) 0).map (Value.int .u8)) ∧ Below w.heap.size w wr) (fun _ t _ => n - (intOf t).toNat)
    case atStart => exact ⟨0, by omega, rfl, rfl, hown0, hb0⟩
    case round =>
      clear hown0 hb0
      obtain ⟨j, hj, rfl, rfl, hown, hbe⟩ := hrel
      have hkb := Xp.kd_bd c k a3 a5 j
      have hd := Xp.dig_bd c k a3 j
      unfold Xp.dig at hd
      have hq := Xp.kd_bd c k a3 a5 (j + 1)
      rw [Xp.kd_succ] at hq
      by_cases hlt : j < n
      · have hc := hown.cellAt j (by omega)
        have hf := hown.frozenAt j
        have hl : ((Xp.digs c k j ++ List.replicate (n - j) 0).map (Value.int .u8))[j]? = some (.int .u8 0) := by
          rw [List.getElem?_map, Xp.fill_get _ _ n j (Xp.digs_len c k j) hlt]; rfl
        rw [hl] at hc
        clear hl
        have hset := Lib.hid (Xp.set_fill (Xp.digs c k j) 0 (Xp.dig c k j) n j (Xp.digs_len c k j) hlt)
        have hst := hown.stored j (.int .u8 (Xp.kd c k j % c))
        have hgr := hbe.grown hst.2 hbe.size (by intro q hq; cases hq; exact Nat.le_refl _)
        have hown' := Lib.hid hst.1
        have hgr := Lib.hid hgr
        clear hst hown
        go_wp2
        go_roundw
        case rel =>
          refine ⟨j + 1, by omega, by go_num, rfl, ?_, hgr.out⟩
          have := hown'.out
          rw [← List.map_set] at this
          rw [Xp.digs_succ, ← hset.out]
          exact this
        case measure => simp [intOf]; omega
      · go_wp2
        go_ret
        obtain rfl : j = n := by omega
        rw [Nat.sub_self] at hown
        simp only [List.replicate_zero, List.append_nil] at hown
        exact OwnInts.mk _ rfl j (by rw [e.out]; exact Xp.digs_len _ _ _) (by rw [e.out]; exact hown) hbe
  · have e := Lib.hid (Xp.choice_out l c k h)
    unfold Xp.okC at h
    rcases (show l < 0 ∨ (0 ≤ l ∧ 65536 < l) ∨ (0 ≤ l ∧ l ≤ 65536 ∧ c < 1) ∨ (0 ≤ l ∧ l ≤ 65536 ∧ 1 ≤ c ∧ 256 < c) ∨ (0 ≤ l ∧ l ≤ 65536 ∧ 1 ≤ c ∧ c ≤ 256 ∧ k < 0) from by omega) with g | ⟨g1, g2⟩ | ⟨g1, g2, g3⟩ | ⟨g1, g2, g3, g4⟩ | ⟨g1, g2, g3, g4, g5⟩
    all_goals
      clear h
      go_enter Try.func88, Try.ntmps88
      go_wp2
      go_ret
      exact OwnInts.nil e.out (Below.refl _ _)
theorem rxChoice_any (l c k : Int) (w : World) (l1 : -9223372036854775808 ≤ l) (l2 : l ≤ 9223372036854775807) (c1 : -9223372036854775808 ≤ c) (c2 : c ≤ 9223372036854775807) (k1 : -9223372036854775808 ≤ k) (k2 : k ≤ 9223372036854775807) :
    Calls Try.prog 55 #[.int .i64 l, .int .i64 c, .int .i64 k] w (OwnInts .u8 5 (Xp.choice l c k) w) := by
  by_cases h : Xp.okC l c k
  · obtain ⟨i0, hi0, hz0, hz1, hz2⟩ := info_parts info_u8
    have e := Lib.hid (Xp.choice_in l c k h)
    obtain ⟨a1, a2, a3, a4, a5⟩ := h
    obtain ⟨n, rfl⟩ := Int.eq_ofNat_of_zero_le a1
    go_enter Try.func55, Try.ntmps55
    go_wp2_with fail
    go_loopw [2, 7, 8] (fun kk v t wr => ∃ j : Nat, j ≤ n ∧ t = .int .i64 j ∧ kk = .int .i64 (Xp.kd c k j) ∧ wr.ownsRow w.heap.size 5 1 v j ((Xp.digs c k j).map (Value.int .u8)) ∧ Below w.heap.size w wr) (fun _ _ t _ => n - (intOf t).toNat)
    case atStart => exact ⟨0, by omega, rfl, rfl, World.ownsRow_nil _ _ _ _, Below.refl _ _⟩
    case round =>
      obtain ⟨j, hj, rfl, rfl, hown, hbe⟩ := hrel
      have hkb := Xp.kd_bd c k a3 a5 j
      have hd := Xp.dig_bd c k a3 j
      unfold Xp.dig at hd
      have hq := Xp.kd_bd c k a3 a5 (j + 1)
      rw [Xp.kd_succ] at hq
      have hsz := hbe.size
      by_cases hlt : j < n
      · go_wp2_with (first
          | (at_builtin; refine wpList_app1 (P := Try.prog) rfl (.tmp 32) (.tmp 37) 49 rfl w.heap.size 5 i0 (.int .u8 0) 1 Try.underlying49 hi0 hz0 hz1 hz2 rfl _ _ _ rfl hown _ _ rfl rfl (by unfold maxLen; omega) (by omega) hsz w.heap.size w hbe (Nat.le_refl _) ?_; intro v' w' hown' hbe' hlt' _))
        go_roundw
        case rel =>
          refine ⟨j + 1, by omega, by go_num, rfl, ?_, hbe'⟩
          rw [Xp.digs_succ, List.map_append]
          exact hown'
        case measure => simp [intOf]; omega
      · go_wp2
        go_ret
        obtain rfl : j = n := by omega
        exact OwnInts.mk _ rfl j (by rw [e.out]; exact Xp.digs_len _ _ _) (by rw [e.out]; exact hown) hbe
  · have e := Lib.hid (Xp.choice_out l c k h)
    unfold Xp.okC at h
    rcases (show l < 0 ∨ (0 ≤ l ∧ 65536 < l) ∨ (0 ≤ l ∧ l ≤ 65536 ∧ c < 1) ∨ (0 ≤ l ∧ l ≤ 65536 ∧ 1 ≤ c ∧ 256 < c) ∨ (0 ≤ l ∧ l ≤ 65536 ∧ 1 ≤ c ∧ c ≤ 256 ∧ k < 0) from by omega) with g | ⟨g1, g2⟩ | ⟨g1, g2, g3⟩ | ⟨g1, g2, g3, g4⟩ | ⟨g1, g2, g3, g4, g5⟩
    all_goals
      clear h
      go_enter Try.func55, Try.ntmps55
      go_wp2
      go_ret
      exact OwnInts.nil e.out (Below.refl _ _)
end Go.Proofs.Ytmekhdclnhhhbaa
end

section
namespace Go.Proofs.Ytmekhdclnhhhbaa
open Go.RowKit
set_option linter.unusedVariables false
/-- v reads as this text, in each later world -/
def Txt (W : World) (v : Value) (xs : List Int) : Prop := ∀ W' : World, Below W.heap.size W W' → (convert 49 9 v).run Try.prog W' = .ok (.string (strOfNums xs)) W'
theorem Txt.now {W : World} {v : Value} {xs : List Int} (h : Txt W v xs) : (convert 49 9 v).run Try.prog W = .ok (.string (strOfNums xs)) W := h W (Below.refl _ _)
theorem Txt.later {W W' : World} {v : Value} {xs : List Int} (h : Txt W v xs) (hb : Below W.heap.size W W') : Txt W' v xs :=
  fun W2 h2 => h W2 (hb.trans (h2.mono hb.size))
end Go.Proofs.Ytmekhdclnhhhbaa
end

section
namespace Go.Proofs.Ytmekhdclnhhhbaa
open Go.RowKit
set_option linter.unusedVariables false
set_option linter.unusedSimpArgs false
set_option maxHeartbeats 1000000
set_option maxRecDepth 100000
theorem own3 {w : World} {base : Nat} {e : TypeId} {v : Value} {a b c : Value} (h : w.ownsRow base e 1 v 3 [a, b, c]) : ∃ g cap, v = .slice (some ⟨g, 0, none⟩) 3 cap ∧ w.cell? ⟨g, 0, none⟩ = some a ∧ w.cell? ⟨g, 1, none⟩ = some b ∧ w.cell? ⟨g, 2, none⟩ = some c := by
  rcases h.2 with ⟨_, h0⟩ | ⟨g, cap, cur, rfl, _⟩
  · omega
  · exact ⟨g, cap, rfl, h.cellAt 0 (by omega), h.cellAt 1 (by omega), h.cellAt 2 (by omega)⟩
theorem awake36_any (w : World) : Calls Try.prog 52 #[] w fun e w' => e = .returned (.bool true) ∧ Below w.heap.size w w' := by
  have e1 : Xp.ways 3 2 = 8 := by decide
  have e2 : Xp.choice 3 2 5 = [1, 0, 1] := by decide
  have hc := xChoice_any 3 2 5 w (by omega) (by omega) (by omega) (by omega) (by omega) (by omega)
  rw [e2] at hc
  have hc := Lib.hid hc
  clear e2
  go_enter Try.func52, Try.ntmps52
  go_wp2_with fail
  refine hc.out.mono ?_
  rintro e w1 ⟨v, rfl, ho, hb⟩
  obtain ⟨g, cap, rfl, h0, h1, h2⟩ := own3 ho
  clear ho hc
  go_wp2_with (first | (go_at_call 89; refine (xWays_any _ _ _ (by omega) (by omega) (by omega) (by omega)).mono ?_; rintro e w' ⟨rfl, rfl⟩))
  go_ret
  exact ⟨by first | rfl | exact ret_bool rfl, hb⟩
end Go.Proofs.Ytmekhdclnhhhbaa
end

section
namespace Go.Proofs.Ytmekhdclnhhhbaa.Nv
set_option linter.unusedSimpArgs false
set_option linter.unusedVariables false
theorem getD_set {α : Type} (l : List α) (i j : Nat) (v z : α) (hi : i < l.length) : (l.set i v).getD j z = if i = j then v else l.getD j z := by
  simp only [List.getD, List.getElem?_set]
  split
  · subst_vars; simp [hi]
  · rfl
theorem getD_part (c : List Int) (i r : Nat) (hr : r < 8) : (part c i).getD r 0 = c.getD (8 * i + r) 0 := by
  unfold part
  simp only [List.getD]
  rw [List.getElem?_take_of_lt hr, List.getElem?_drop]
theorem getD_setPart (l c : List Int) (i x : Nat) (hl : 8 * i + 8 ≤ l.length) (hc : 8 * i + 8 ≤ c.length) : (setPart l i (part c i)).getD x 0 = if x / 8 = i then c.getD x 0 else l.getD x 0 := by
  have hp : (part c i).length = 8 := length_part hc
  unfold setPart
  by_cases h1 : x < 8 * i
  · rw [if_neg (by omega)]
    simp only [List.getD]
    rw [List.append_assoc, List.getElem?_append_left (by simp; omega), List.getElem?_take_of_lt h1]
  · by_cases h2 : x < 8 * i + 8
    · rw [if_pos (by omega)]
      have := getD_part c i (x - 8 * i) (by omega)
      rw [show 8 * i + (x - 8 * i) = x by omega] at this
      rw [← this]
      simp only [List.getD]
      rw [List.getElem?_append_left (by simp [hp]; omega), List.getElem?_append_right (by simp; omega)]
      simp only [List.length_take]
      rw [show min (8 * i) l.length = 8 * i by omega]
    · rw [if_neg (by omega)]
      simp only [List.getD]
      rw [List.getElem?_append_right (by simp [hp]; omega), List.getElem?_drop]
      simp only [List.length_append, List.length_take, hp]
      rw [show 8 * i + 8 + (x - (min (8 * i) l.length + 8)) = x by omega]
theorem of_same {a b : List Int} {i x : Nat} (h : same (part a i) (part b i) = true) (hx : x / 8 = i) : a.getD x 0 = b.getD x 0 := by
  have h' : part a i = part b i := of_decide_eq_true h
  have : (part a i).getD (x - 8 * i) 0 = (part b i).getD (x - 8 * i) 0 := by rw [h']
  rw [getD_part _ _ _ (by omega), getD_part _ _ _ (by omega), show 8 * i + (x - 8 * i) = x by omega] at this
  exact this
/-- a line that is not dirty lasts as it is; what is pending is dirty -/
structure Inv (d : D) (m : Nat) : Prop where
  ok : Ok d m
  cl : ∀ x, x < 8 * m → d.dirty.getD (x / 8) false = false → d.last.getD x 0 = d.cache.getD x 0
  pd : ∀ i, d.pend.getD i false = true → d.dirty.getD i false = true
theorem Inv.load (ws : List Int) (m : Nat) (h : ws.length = 8 * m) : Inv (load ws m) m :=
  ⟨⟨h, h, by simp [Nv.load, h], by simp [Nv.load], by simp [Nv.load]⟩, fun _ _ _ => rfl, fun i hi => by
    have : (List.replicate m false).getD i false = true := hi
    simp only [List.getD, List.getElem?_replicate] at this
    split at this <;> simp at this⟩
theorem Inv.killed {d : D} {m : Nat} (h : Inv d m) : Inv (killed d) m := ⟨h.ok.killed, h.cl, h.pd⟩
theorem Inv.stepped {d : D} {m : Nat} (h : Inv d m) : Inv (stepped d) m := ⟨h.ok.stepped, h.cl, h.pd⟩
theorem Inv.put {d : D} {m : Nat} (h : Inv d m) {a : Nat} (ha : a < 8 * m) (v : Int) : Inv (put d a v) m := by
  have hd := h.ok.hd
  have hc := h.ok.hc
  refine ⟨h.ok.put a v, fun x hx hdx => ?_, fun i hi => ?_⟩
  · have e : (d.dirty.set (a / 8) true).getD (x / 8) false = false := hdx
    rw [getD_set _ _ _ _ _ (by omega)] at e
    split at e
    · cases e
    · show d.last.getD x 0 = (d.cache.set a v).getD x 0
      rw [getD_set _ _ _ _ _ (by omega), if_neg (by rintro rfl; exact absurd rfl ‹_›)]
      exact h.cl x hx e
  · show (d.dirty.set (a / 8) true).getD i false = true
    rw [getD_set _ _ _ _ _ (by omega)]
    split
    · rfl
    · exact h.pd i hi
theorem Inv.flushed {d : D} {m : Nat} (h : Inv d m) {i : Nat} (hi : i < m) (hd : d.dirty.getD i false = true) : Inv (flushed d i) m := by
  have hp := h.ok.hp
  refine ⟨h.ok.flushed hi, h.cl, fun j hj => ?_⟩
  have e : (d.pend.set i true).getD j false = true := hj
  rw [getD_set _ _ _ _ _ (by omega)] at e
  split at e
  · subst_vars; exact hd
  · exact h.pd j e
theorem Inv.fenceLine {d : D} {m : Nat} (h : Inv d m) {i : Nat} (hi : i < m) : Inv (fenceLine d i) m := by
  have hd := h.ok.hd
  have hp := h.ok.hp
  have hl := h.ok.hl
  have hf := h.ok.hf
  have ho := h.ok.fenceLine hi
  unfold Nv.fenceLine at ho ⊢
  split
  · rename_i hpi
    rw [if_pos hpi] at ho
    refine ⟨ho, fun x hx hdx => ?_, fun j hj => ?_⟩
    · have e : (d.dirty.set i (!same (part d.fl i) (part d.cache i))).getD (x / 8) false = false := hdx
      show (setPart d.last i (part d.fl i)).getD x 0 = d.cache.getD x 0
      rw [getD_setPart _ _ _ _ (by omega) (by omega)]
      rw [getD_set _ _ _ _ _ (by omega)] at e
      by_cases hxi : x / 8 = i
      · rw [if_pos hxi.symm] at e
        rw [if_pos hxi]
        exact of_same (by simpa using e) hxi
      · rw [if_neg (fun h => hxi h.symm)] at e
        rw [if_neg hxi]
        exact h.cl x hx e
    · have e : (d.pend.set i false).getD j false = true := hj
      rw [getD_set _ _ _ _ _ (by omega)] at e
      split at e
      · cases e
      · show (d.dirty.set i _).getD j false = true
        rw [getD_set _ _ _ _ _ (by omega), if_neg ‹_›]
        exact h.pd j e
  · exact h
theorem Inv.fenceTo {d : D} {m : Nat} (h : Inv d m) : ∀ k, k ≤ m → Inv (fenceTo d k) m
  | 0, _ => h
  | k + 1, hk => (Inv.fenceTo h k (by omega)).fenceLine (by omega)
theorem Inv.store {d : D} {m : Nat} (h : Inv d m) (a v : Int) : Inv (store d m a v).1 m := by
  unfold Nv.store; split
  · split
    · exact h.killed
    · exact h.stepped.put (by omega) _
  · exact h
theorem Inv.flush {d : D} {m : Nat} (h : Inv d m) (l : Int) : Inv (flush d m l).1 m := by
  unfold Nv.flush; split
  · split
    · exact h.killed
    · show Inv (if _ then _ else _) m
      split
      · exact h.stepped.flushed (by omega) ‹_›
      · exact h.stepped
  · exact h
theorem Inv.fence {d : D} {m : Nat} (h : Inv d m) : Inv (fence d m).1 m := by
  unfold Nv.fence; split
  · exact h.killed
  · exact h.stepped.fenceTo m (Nat.le_refl _)
theorem crashTo_len {d : D} {m : Nat} (ho : Ok d m) (cs : List Int) : ∀ k, (crashTo d (dirtyTo d.dirty m) cs k).length = 8 * m
  | 0 => ho.hl
  | k + 1 => by
    have ih := crashTo_len ho cs k
    rw [crashTo_succ]
    split
    · rename_i hk
      obtain ⟨i, e, hi, _⟩ := dirtyTo_mem d.dirty m k _ (List.getElem?_eq_getElem hk.1)
      have e2 : ((dirtyTo d.dirty m).getD k 0).toNat = i := by
        simp only [List.getD, List.getElem?_eq_getElem hk.1, Option.getD_some]; omega
      rw [e2]
      unfold Nv.crashOne
      have hf := ho.hf
      have hc := ho.hc
      split
      · split
        · rw [length_setPart (by omega) (length_part (by omega))]; exact ih
        · exact ih
      · split
        · rw [length_setPart (by omega) (length_part (by omega))]; exact ih
        · exact ih
    · exact ih
end Go.Proofs.Ytmekhdclnhhhbaa.Nv
end

section
namespace Go.Proofs.Ytmekhdclnhhhbaa
open Go.RowKit
set_option linter.unusedSimpArgs false
set_option linter.unusedVariables false
theorem xWays (l c : Int) (w : World) (h : 0 ≤ l ∧ l ≤ 100000) (hc : 0 ≤ c ∧ c ≤ 1000) :
    Calls Try.prog 89 [.int .i64 l, .int .i64 c].toArray w fun e w' => e = .returned (.int .i64 (Xp.ways l c)) ∧ Only [] w w' :=
  (xWays_any l c w (by omega) (by omega) (by omega) (by omega)).mono fun _ _ h => ⟨h.1, by rw [h.2]; exact Only.refl _ _⟩
theorem rxWays (l c : Int) (w : World) (h : 0 ≤ l ∧ l ≤ 100000) (hc : 0 ≤ c ∧ c ≤ 1000) :
    Calls Try.prog 54 [.int .i64 l, .int .i64 c].toArray w fun e w' => e = .returned (.int .i64 (Xp.ways l c)) ∧ Only [] w w' :=
  (rxWays_any l c w (by omega) (by omega) (by omega) (by omega)).mono fun _ _ h => ⟨h.1, by rw [h.2]; exact Only.refl _ _⟩
theorem choice_digs (L k : Nat) (hL : L ≤ 60000) : Xp.choice (L : Int) 2 (k : Int) = Xp.digs 2 k L := by
  unfold Xp.choice
  rw [if_pos ⟨by omega, by omega, by omega, by omega, by omega⟩, Int.toNat_natCast]
def RowOf (k : IntKind) (T : TypeId) (xs : List Int) (w : World) (e : Ending) (w' : World) : Prop :=
  ∃ A b c, e = .returned (.slice A xs.length c) ∧ (xs.length ≠ 0 → A = some ⟨b, 0, none⟩) ∧ Heap w [] [vec (Value.int k) b xs T] w'
theorem xChoice (L k : Nat) (w : World) (hL : L ≤ 60000) (hk : k ≤ 100000) :
    Calls Try.prog 88 [.int .i64 L, .int .i64 2, .int .i64 k].toArray w (RowOf .u8 5 (Xp.digs 2 k L) w) :=
  (xChoice_any L 2 k w (by omega) (by omega) (by omega) (by omega) (by omega) (by omega)).mono fun _ _ ⟨v, he, ho, hb⟩ => by
    rw [choice_digs L k hL] at ho
    obtain ⟨A, c, rfl, H⟩ := own_heap ho hb
    obtain ⟨b, hA, H2⟩ := own_vec0 H
    exact ⟨A, b, c, he, hA, H2⟩
theorem rxChoice (L k : Nat) (w : World) (hL : L ≤ 60000) (hk : k ≤ 100000) :
    Calls Try.prog 55 [.int .i64 L, .int .i64 2, .int .i64 k].toArray w (RowOf .u8 5 (Xp.digs 2 k L) w) :=
  (rxChoice_any L 2 k w (by omega) (by omega) (by omega) (by omega) (by omega) (by omega)).mono fun _ _ ⟨v, he, ho, hb⟩ => by
    rw [choice_digs L k hL] at ho
    obtain ⟨A, c, rfl, H⟩ := own_heap ho hb
    obtain ⟨b, hA, H2⟩ := own_vec0 H
    exact ⟨A, b, c, he, hA, H2⟩
/-- the first i of a row are doubled -/
def dbl (xs : List Int) (i : Nat) : List Int := (xs.take i).map (· * 2) ++ xs.drop i
theorem dbl_len (xs : List Int) (i : Nat) : (dbl xs i).length = xs.length := by simp [dbl]; omega
theorem dbl_get {xs : List Int} {i : Nat} {z : Int} (h : xs[i]? = some z) : (dbl xs i)[i]? = some z := by
  have hi := (List.getElem?_eq_some_iff.1 h).1
  unfold dbl
  rw [List.getElem?_append_right (by simp; omega)]
  simp only [List.length_map, List.length_take, List.getElem?_drop]
  rw [show i + (i - min i xs.length) = i by omega]; exact h
theorem take_snoc' {α : Type} {l : List α} {k : Nat} {x : α} (h : l[k]? = some x) : l.take k ++ [x] = l.take (k + 1) := by rw [List.take_add_one, h]; rfl
theorem dbl_set {xs : List Int} {i : Nat} {z : Int} (h : xs[i]? = some z) : (dbl xs i).set i (z * 2) = dbl xs (i + 1) := by
  have hi := (List.getElem?_eq_some_iff.1 h).1
  unfold dbl
  rw [List.set_append_right _ _ (by simp; omega)]
  simp only [List.length_map, List.length_take]
  rw [show i - min i xs.length = 0 by omega, ← take_snoc' h, List.map_append, List.append_assoc]
  congr 1
  rw [List.drop_eq_getElem_cons hi]
  rfl
theorem dbl_end (xs : List Int) (i : Nat) (h : xs.length ≤ i) : dbl xs i = xs.map (· * 2) := by
  unfold dbl; rw [List.take_of_length_le h, List.drop_eq_nil_of_le h, List.append_nil]
theorem digs_two (k L : Nat) (i : Nat) (z : Int) (h : (Xp.digs 2 k L)[i]? = some z) : 0 ≤ z ∧ z ≤ 1 := by
  have hm := List.mem_of_getElem? h
  unfold Xp.digs at hm
  obtain ⟨j, _, rfl⟩ := List.mem_map.1 hm
  have := Xp.dig_bd 2 k (by omega) j
  omega
theorem nDirtyL (g : Geo) (d : Nv.D) (m : Nat) (w : World) (hE : Ents (devL g d) w) (ho : Nv.Ok d m) (hm : m ≤ 100000) :
    Calls Try.prog 27 [ptr g.p].toArray w fun e w' => ∃ A c, e = .returned (.slice A (Nv.dirtyTo d.dirty m).length c) ∧ Only [] w w' :=
  (nDirty g d m w hE ho hm).mono (by
    rintro e w' ⟨A, c, he, H⟩
    exact ⟨A, c, he, H.only⟩)
/-- what a crash leaves, by the k-th way -/
def lefts (d : Nv.D) (m k : Nat) : List Int := Nv.crashTo d (Nv.dirtyTo d.dirty m) ((Xp.digs 2 k (Nv.dirtyTo d.dirty m).length).map (· * 2)) (Nv.dirtyTo d.dirty m).length
def stP (p : Geo × Nat) : Option Addr := some ⟨p.1.p, 0, none⟩
def stE (d : Nv.D) (m : Nat) (p : Geo × Nat) : Ent := grp (devL p.1 (Nv.load (lefts d m p.2) m))
def many (d : Nv.D) (m : Nat) (most : Int) : Int := min (min (Xp.ways ((Nv.dirtyTo d.dirty m).length : Int) 2) (max most 0)) 256
section
variable {P : Program} {n : Nat} {f : Nat → Value} {W : World} {dst : Option Tmp} {ty : TypeId} {pos : String} {af : Array Edge} {g : Option (Nat × Bool)} {x y z : Operand} {k : IntKind} {a b c : Int} {t t2 t3 : TypeId}
theorem r_min3 {q : Int} (hx : ev n f x = .int k a) (hy : ev n f y = .int k b) (hz : ev n f z = .int k c) (hq : min (min a b) c = q) : (execOp (ev n f) ⟨dst, .call ⟨.builtin .min, #[x, y, z], #[t, t2, t3]⟩, ty, pos, af, g⟩).run P W = .ok (.value (.int k q)) W := by
  subst hq
  have h3 : #[x, y, z].map (ev n f) = #[.int k a, .int k b, .int k c] := by simp [hx, hy, hz]
  have h4 := run_min_int3 (P := P) W #[t, t2, t3] ty k k k a b c
  have h5 : (if c < (if b < a then b else a) then c else (if b < a then b else a)) = min (min a b) c := by
    split <;> split <;> omega
  rw [h5] at h4
  simp only [execOp, resolve, invoke, builtin, h3, Sem.run_bind, Sem.run_pure, Result.andThen_ok, h4]
end
theorem many_bd (d : Nv.D) (m : Nat) (most : Int) : 0 ≤ many d m most ∧ many d m most ≤ 256 := by
  unfold many
  have : 0 ≤ Xp.ways ((Nv.dirtyTo d.dirty m).length : Int) 2 := by
    rw [Xp.ways_in _ _ (by omega) (by omega)]
    have := Xp.wy_bd 2 (by omega) ((Nv.dirtyTo d.dirty m).length : Int).toNat
    omega
  omega
theorem xStates (g : Geo) (d : Nv.D) (m : Nat) (most : Int) (w : World) (hE : Ents (devL g d) w) (ho : Nv.Ok d m) (hg : GOk g m) (hm : m ≤ 10000) (hmo : -9223372036854775808 ≤ most ∧ most ≤ 9223372036854775807) :
    Calls Try.prog 53 [ptr g.p, .int .i64 most].toArray w fun e w' => ∃ (A : Option Addr) (c : Nat) (ps : List (Geo × Nat)), (ps.length : Int) = many d m most ∧ e = .returned (.slice A ps.length c) ∧ ps.map (·.2) = List.range ps.length ∧
      Heap w [] [ownN 1 (.slice A ps.length c) ps.length ((ps.map stP).map Value.pointer) 26, grp (ps.map (stE d m))] w' := by
  have HR := Heap.start hE
  have H0 := Heap.nil w
  have H1 := H0.grp_nil
  have H : Heap w [] [ownN 1 (.slice none 0 0) 0 (([] : List (Option Addr)).map Value.pointer) 26, grp ([].map (stE d m))] w := H1.own_nil 1 26
  clear H0 H1
  have hLb := dirtyTo_len d.dirty m
  have hD := fun W hE => nDirtyL g d m W hE ho (by omega)
  have hW := fun W => xWays ((Nv.dirtyTo d.dirty m).length : Int) 2 W (by omega) (by omega)
  have hC := fun k W (hk : k ≤ 100000) => xChoice (Nv.dirtyTo d.dirty m).length k W (by omega) hk
  have hmb := many_bd d m most
  have hme : min (min (Xp.ways ((Nv.dirtyTo d.dirty m).length : Int) 2) (max most 0)) 256 = many d m most := rfl
  obtain ⟨M, hM⟩ := Int.eq_ofNat_of_zero_le hmb.1
  rw [hM] at hme hmb
  refine k_in (N := 46) Try.func53 rfl rfl rfl ?_
  refine k_seq ?_
  refine k_rg ?_
  refine s_run rfl rfl (r_as (v := .slice _ _ _) rfl) ?_
  refine k_nil ?_
  refine c_norm ?_
  refine k_seq ?_
  refine k_rg ?_
  refine s_run rfl rfl (r_mv (v := .pointer _) rfl) ?_
  refine s_call rfl (hD _ (HR.same H.only).ents) (ca27 rfl) ?_
  rintro e W1 ⟨Ad, cd, rfl, H'⟩
  refine ⟨_, rfl, ?_⟩
  have H := H.same H'; clear H'
  refine s_run rfl rfl (r_len rfl Try.underlying42) ?_
  refine s_call rfl (hW _) (ca89 rfl) ?_
  rintro e W1 ⟨rfl, H'⟩
  refine ⟨_, rfl, ?_⟩
  have H := H.same H'; clear H'
  refine s_run rfl rfl (r_mv (v := .int _ _) rfl) ?_
  refine s_run rfl rfl (r_max (c := max most 0) rfl rfl (by split <;> omega)) ?_
  refine s_run rfl rfl (r_min3 (q := (M : Int)) rfl rfl rfl hme) ?_
  refine s_run rfl rfl (r_as (v := .int _ _) rfl) ?_
  refine k_nil ?_
  refine c_norm ?_
  refine k_seq ?_
  refine k_rg ?_
  refine s_run rfl rfl (r_as (v := .slice _ _ _) rfl) ?_
  refine k_nil ?_
  refine c_norm ?_
  refine k_seq ?_
  refine k_seq ?_
  refine k_rg ?_
  refine s_run rfl rfl (r_mv (v := .int _ _) rfl) ?_
  refine s_run rfl rfl (r_mv (v := .int _ _) rfl) ?_
  refine k_nil ?_
  refine c_norm ?_
  refine k_b ?_
  refine k_loop (fun z f W => ∃ (k : Nat) (A : Option Addr) (c : Nat) (ps : List (Geo × Nat)), k ≤ M ∧ z = M - k ∧ ps.length = k ∧ ps.map (·.2) = List.range k ∧ f 0 = ptr g.p ∧ f 6 = .slice A k c ∧ f 17 = .int .i64 M ∧ f 18 = .int .i64 k ∧ Heap w [] [ownN 1 (.slice A k c) k ((ps.map stP).map Value.pointer) 26, grp (ps.map (stE d m))] W) M ⟨0, none, 0, [], by omega, rfl, rfl, rfl, rfl, rfl, rfl, rfl, H⟩ ?_
  clear H
  rintro z f W ⟨k, A, c, ps, hk, rfl, hpl, hpr, f0, f6, f17, f18, H⟩
  obtain ⟨f, rfl⟩ := live4 f0 f6 f17 f18
  clear f0 f6 f17 f18
  by_cases hlt : k < M
  · have hDl := Xp.digs_len 2 (k : Int) (Nv.dirtyTo d.dirty m).length
    have hC := hC k
    have hd2 := digs_two k (Nv.dirtyTo d.dirty m).length
    have hCr := fun A cc W hE hz => nCrash g d m A (Nv.dirtyTo d.dirty m).length cc ((Xp.digs 2 (k : Int) (Nv.dirtyTo d.dirty m).length).map (· * 2)) W hE ho hg (by omega) hz (by simp [hDl]) (by
      intro z hz
      obtain ⟨y, hy, rfl⟩ := List.mem_map.1 hz
      obtain ⟨i, hi⟩ := List.mem_iff_getElem?.1 hy
      have := hd2 i y hi
      omega) (by omega)
    have hCr2 : ∀ A cc W, Ents (devL g d) W → Sees (Value.int .u8) W [] A ((Xp.digs 2 (k : Int) (Nv.dirtyTo d.dirty m).length).map (· * 2)) → Calls Try.prog 37 [ptr g.p, .slice A (Nv.dirtyTo d.dirty m).length cc].toArray W fun e w' => ∃ g', e = .returned (ptr g'.p) ∧ GOk g' m ∧ Heap W [] [stE d m (g', k)] w' := fun A cc W hE hz => (hCr A cc W hE hz).mono (by
      rintro e w' ⟨g', he, hg', H⟩
      exact ⟨g', he, hg', grp_heap H⟩)
    clear hCr
    generalize Xp.digs 2 (k : Int) (Nv.dirtyTo d.dirty m).length = xs at *
    generalize (Nv.dirtyTo d.dirty m).length = L at *
    subst hDl
    refine k_seq ?_
    refine k_rg ?_
    refine s_run rfl rfl (r_lssT rfl rfl (by omega)) ?_
    refine k_nil ?_
    refine c_norm ?_
    refine k_seq ?_
    refine k_t rfl ?_
    refine k_skip ?_
    refine c_norm ?_
    refine k_seq ?_
    refine k_b ?_
    refine k_seq ?_
    refine k_rg ?_
    refine s_run rfl rfl (r_mv (v := .int _ _) rfl) ?_
    refine s_run rfl rfl (r_as (v := .int _ _) rfl) ?_
    refine k_nil ?_
    refine c_norm ?_
    refine k_seq ?_
    refine k_rg ?_
    refine s_run rfl rfl (r_mv (v := .pointer _) rfl) ?_
    refine s_call rfl (hD _ (HR.same H.only).ents) (ca27 rfl) ?_
    rintro e W1 ⟨Ad, cd, rfl, H'⟩
    refine ⟨_, rfl, ?_⟩
    have H := H.same H'; clear H'
    refine s_run rfl rfl (r_len rfl Try.underlying42) ?_
    refine s_run rfl rfl (r_mv (v := .int _ _) rfl) ?_
    refine s_call rfl (hC _ (by omega)) (ca88 rfl) ?_
    rintro e W1 ⟨Ac, bc, cc, rfl, hAc, H'⟩
    refine ⟨_, rfl, ?_⟩
    have H := H.more (A := [_]) H'; clear H'; simp only [List.cons_append, List.nil_append] at H
    refine s_run rfl rfl (r_as (v := .slice _ _ _) rfl) ?_
    refine k_nil ?_
    refine c_norm ?_
    refine k_seq ?_
    refine k_seq ?_
    refine k_rg ?_
    refine s_run rfl rfl (r_mv (v := .slice _ _ _) rfl) ?_
    refine s_run rfl rfl (r_len rfl Try.underlying49) ?_
    refine s_run rfl rfl (r_mv (v := .int _ _) rfl) ?_
    refine k_nil ?_
    refine c_norm ?_
    refine k_b ?_
    refine k_loop (fun z f W => ∃ i : Nat, i ≤ xs.length ∧ z = xs.length - i ∧ f 0 = ptr g.p ∧ f 6 = .slice A k c ∧ f 7 = .int .i64 k ∧ f 8 = .slice Ac xs.length cc ∧ f 17 = .int .i64 M ∧ f 18 = .int .i64 k ∧ f 27 = .int .i64 xs.length ∧ f 28 = .int .i64 i ∧ Heap w [] [vec (Value.int .u8) bc (dbl xs i) 5, ownN 1 (.slice A k c) k ((ps.map stP).map Value.pointer) 26, grp (ps.map (stE d m))] W) xs.length ⟨0, by omega, rfl, rfl, rfl, rfl, rfl, rfl, rfl, rfl, rfl, H⟩ ?_
    clear H
    rintro z f W ⟨i, hi, rfl, f0, f6, f7, f8, f17, f18, f27, f28, H⟩
    obtain ⟨f, rfl⟩ := lv8 f0 f6 f7 f8 f17 f18 f27 f28
    clear f0 f6 f7 f8 f17 f18 f27 f28
    by_cases hlt2 : i < xs.length
    · obtain ⟨x, hx⟩ : ∃ x, xs[i]? = some x := ⟨_, List.getElem?_eq_getElem hlt2⟩
      have hxb := hd2 i x hx
      obtain rfl := hAc (by omega)
      refine k_seq ?_
      refine k_rg ?_
      refine s_run rfl rfl (r_lssT rfl rfl (by omega)) ?_
      refine k_nil ?_
      refine c_norm ?_
      refine k_seq ?_
      refine k_t rfl ?_
      refine k_skip ?_
      refine c_norm ?_
      refine k_seq ?_
      refine k_b ?_
      refine k_seq ?_
      refine k_rg ?_
      refine s_run rfl rfl (r_mv (v := .int _ _) rfl) ?_
      refine s_run rfl rfl (r_as (v := .int _ _) rfl) ?_
      refine k_nil ?_
      refine c_norm ?_
      refine k_rg ?_
      refine s_run rfl rfl (r_mv (v := .slice _ _ _) rfl) ?_
      refine s_run rfl rfl (r_mv (v := .int _ _) rfl) ?_
      refine s_run rfl rfl (r_ix1 rfl rfl rfl (by omega) Try.underlying49 sz5) ?_
      refine s_run rfl rfl (r_lv H 0 rfl rfl (dbl_get hx) ag5) ?_
      refine s_run rfl rfl (r_mul rfl rfl (wB (by omega))) ?_
      refine s_run rfl rfl (r_ix1 rfl rfl rfl (by omega) Try.underlying49 sz5) ?_
      refine s_sv (u := .int _ _) H 0 rfl rfl rfl rfl rfl (by rw [dbl_len]; exact hlt2) (fun _ => rfl) sz5 ?_
      intro _ H'; simp only [List.set_cons_zero, List.set_cons_succ, List.take_succ_cons, List.take_zero, List.drop_succ_cons, List.drop_zero, List.cons_append, List.nil_append, List.append_nil, List.length_cons, List.length_nil, Nat.reduceAdd] at H'; clear H; have H := H'; clear H'
      refine k_nil ?_
      refine b_norm ?_
      refine c_norm ?_
      refine k_rg ?_
      refine s_run rfl rfl (r_add rfl rfl (wI (by omega))) ?_
      refine s_run rfl rfl (r_mv (v := .int _ _) rfl) ?_
      refine k_nil ?_
      refine c_round ?_
      rw [dbl_set hx] at H
      refine ⟨_, _, ?_, rfl, i + 1, by omega, rfl, rfl, rfl, rfl, rfl, rfl, rfl, rfl, rfl, H⟩
      omega
    · rw [dbl_end xs i (by omega)] at H
      refine k_seq ?_
      refine k_rg ?_
      refine s_run rfl rfl (r_lssF rfl rfl (by omega)) ?_
      refine k_nil ?_
      refine c_norm ?_
      refine k_seq ?_
      refine k_f rfl ?_
      refine k_exit ?_
      refine c_exit ?_
      refine c_exit ?_
      refine b_hit ?_
      refine c_norm ?_
      refine k_rg ?_
      refine s_run rfl rfl (r_mv (v := .slice _ _ _) rfl) ?_
      refine s_run rfl rfl (r_mv (v := .pointer _) rfl) ?_
      refine s_run rfl rfl (r_mv (v := .slice _ _ _) rfl) ?_
      refine s_call rfl (hCr2 Ac cc _ (HR.same H.only).ents (H.sees (m := xs.length) 0 rfl (by simp) hAc (by simp))) (ca37 rfl) ?_
      rintro e W1 ⟨g', rfl, hg', H'⟩
      refine ⟨_, rfl, ?_⟩
      have H := H.more (A := [_]) H'; clear H'; simp only [List.cons_append, List.nil_append] at H
      refine s_app1 (enc := Value.pointer) H 2 rfl rfl rfl rfl rfl rfl rfl (by omega) Try.underlying80 inf26 rfl ?_
      intro _ An cn _ H'; simp only [List.set_cons_zero, List.set_cons_succ, List.take_succ_cons, List.take_zero, List.drop_succ_cons, List.drop_zero, List.cons_append, List.nil_append, List.append_nil, List.length_cons, List.length_nil, Nat.reduceAdd] at H'; clear H; have H := H'; clear H'
      refine s_run rfl rfl (r_as (v := .slice _ _ _) rfl) ?_
      refine k_nil ?_
      refine b_norm ?_
      refine c_norm ?_
      refine k_rg ?_
      refine s_run rfl rfl (r_add rfl rfl (wI (by omega))) ?_
      refine s_run rfl rfl (r_mv (v := .int _ _) rfl) ?_
      refine k_nil ?_
      refine c_round ?_
      have h2 : Heap w [] [_, _, _, grp _] _ := H.pick 1 rfl
      have h3 : Heap w [] [grp _, _, _] _ := h2.drop.pick 2 rfl
      have h4 : Heap w [] [_, grp _, _] _ := h3.pick 1 rfl
      have h5 : Heap w [] [_, grp _] _ := h4.grp_snoc.pick 1 rfl
      refine ⟨_, _, ?_, rfl, k + 1, _, _, ps ++ [(g', k)], by omega, rfl, by rw [List.length_append, hpl]; rfl, by rw [List.map_append, hpr, List.range_succ]; rfl, rfl, rfl, rfl, rfl, ?_⟩
      · omega
      · simp only [List.map_append, List.map_cons, List.map_nil] at h5 ⊢
        exact h5
  · obtain rfl : k = M := by omega
    refine k_seq ?_
    refine k_rg ?_
    refine s_run rfl rfl (r_lssF rfl rfl (by omega)) ?_
    refine k_nil ?_
    refine c_norm ?_
    refine k_seq ?_
    refine k_f rfl ?_
    refine k_exit ?_
    refine c_exit ?_
    refine c_exit ?_
    refine b_hit ?_
    refine c_norm ?_
    refine k_seq ?_
    refine k_rg ?_
    refine s_run rfl rfl (r_mv (v := .slice _ _ _) rfl) ?_
    refine s_run rfl rfl (r_as (v := .slice _ _ _) rfl) ?_
    refine k_nil ?_
    refine c_norm ?_
    refine k_ret ?_
    refine fin1r (v := .slice _ _ _) rfl rfl ?_
    rw [← hpl] at H hM hpr
    exact ⟨A, c, ps, hM.symm, by rw [hpl], hpr, H⟩
end Go.Proofs.Ytmekhdclnhhhbaa
end

section
namespace Go.Proofs.Ytmekhdclnhhhbaa
open Go.RowKit
set_option linter.unusedSimpArgs false
set_option linter.unusedVariables false
theorem RefOk.at {w W : World} {L : List Ent} {F X : List Nat} {s : RefS} {d : Nv.D} {m : Nat} (hr : RefOk w (F ++ X) s d m) (H : Heap w F L W) : RefOk W ((F ++ X) ++ ids L) s d m :=
  (hr.news (G := (F ++ X) ++ ids L) (fun i hi => by
    rcases List.mem_append.1 hi with h | h
    · exact .inl h
    · rcases H.own i h with h | h
      · exact .inl (List.mem_append_left _ h)
      · exact .inr h)).later H.only (fun _ h => List.mem_append_left _ (List.mem_append_left _ h))
theorem Heap.fl {w W : World} {L : List Ent} {F G : List Nat} (H : Heap w F L W) (hG : ∀ i ∈ G, i < w.heap.size) : ∀ i ∈ G ++ ids L, i < W.heap.size := by
  intro i hi
  rcases List.mem_append.1 hi with h | h
  · exact Nat.lt_of_lt_of_le (hG i h) H.only.size
  · exact H.idlt i h
section
variable (g : Geo) (d : Nv.D) (s : RefS) (m : Nat) (k a n v : Int) (A : Option Addr) (nc cc : Nat) (cs : List Int) (X : List Nat) (w : World)

end
end Go.Proofs.Ytmekhdclnhhhbaa
end

section
namespace Go.Proofs.Ytmekhdclnhhhbaa
open Go.RowKit
set_option linter.unusedSimpArgs false
set_option linter.unusedVariables false
/-- a call, as the script holds it -/
structure OpS where
  k : Int
  a : Int
  n : Int
  v : Int
  A : Option Addr
  nc : Nat
  cc : Nat
  cs : List Int
def OpS.cells (o : OpS) : List Value := [.int .i64 o.k, .int .i64 o.a, .int .i64 o.n, .int .u64 o.v, .slice o.A o.nc o.cc]
structure OpOk (w : World) (o : OpS) : Prop where
  see : Sees (Value.int .u8) w [] o.A o.cs
  len : o.cs.length = o.nc
  bd : ∀ z ∈ o.cs, 0 ≤ z
  n1 : -9223372036854775808 ≤ o.n ∧ o.n ≤ 9223372036854775807
  ncb : o.nc ≤ 9223372036854775807
  vb : 0 ≤ o.v ∧ o.v ≤ 18446744073709551615
def Script (w : World) (A : Option Addr) (ops : List OpS) : Prop := (ops.length ≠ 0 → ∃ b o, A = some ⟨b, o, none⟩ ∧ ∀ i op, ops[i]? = some op → Reads (fun v : Value => v) w b (o + i * 5) op.cells) ∧ ∀ op ∈ ops, OpOk w op
end Go.Proofs.Ytmekhdclnhhhbaa
end

section
namespace Go.Proofs.Ytmekhdclnhhhbaa
open Go.RowKit
set_option linter.unusedSimpArgs false
set_option linter.unusedVariables false
def start (zs : List Int) : Nv.D := Nv.load (zs ++ List.replicate (8 * ((zs.length + 7) / 8) - zs.length) 0) ((zs.length + 7) / 8)
end Go.Proofs.Ytmekhdclnhhhbaa
end

section
namespace Go.Proofs.Ytmekhdclnhhhbaa
set_option linter.unusedSimpArgs false
set_option linter.unusedVariables false
section
open Go.ChangeShapes Go.WideShapes Go.Deep
variable {H : Type} {enc : TypeId × Value → H} {w : World} {base : Nat} {spare : Nat → Bool} {held : Bool}
theorem add_none {b o i : Nat} : (⟨b, o, none⟩ : Addr).add i = ⟨b, o + i, none⟩ := by
  unfold Addr.add; split
  · subst_vars; rfl
  · rfl
theorem sees_row {k : IntKind} {t e : TypeId} {fuel : Nat} {v : Value} {y : DataW H × List MemPlace} (ht : Try.prog.underlying t = some (.slice e)) (he : Try.prog.underlying e = some (.int k)) (hc : Try.prog.cellsOf e = 1)
    (h : DataW.trod enc Try.prog w base spare held fuel t [v] = some y) :
    ∃ A n c xs, v = .slice A n c ∧ Sees (Value.int k) w [] A xs ∧ xs.length = n ∧ n ≤ c ∧ c ≤ maxLen ∧ ∀ z ∈ xs, (Lit.int k z).wf = true := by
  rcases open_ints ht he hc h with ⟨hcs, _⟩ | ⟨x, l, c, zs, hcs, _, hl, hm, hz, _, hcell, hwf⟩
  · injection hcs with hv _
    exact ⟨none, 0, 0, [], hv, Sees.nil, rfl, by omega, by decide, by simp⟩
  · injection hcs with hv _
    have hzl : l ≤ zs.length := by rw [hz]; split <;> omega
    refine ⟨some x, l, c, zs.take l, hv, fun h0 => ?_, by simp; omega, hl, hm, fun z hz => hwf z (List.mem_of_mem_take hz)⟩
    obtain ⟨b, off, spot⟩ := x
    have h0' : 0 < l := by simp at h0; omega
    have hc0 := hcell 0 (by omega)
    have hspot : spot = none := by simpa [Addr.add] using World.cell?_spot hc0
    subst hspot
    refine ⟨b, off, rfl, by simp, fun j z hj => ?_⟩
    have hjl : j < l := by have := (List.getElem?_eq_some_iff.1 hj).1; simp at this; omega
    rw [List.getElem?_take_of_lt hjl] at hj
    have hc2 := hcell j (by omega)
    rw [add_none] at hc2
    rw [hc2]
    simp [List.getD, hj]
theorem list_of {α : Type} {Q : Nat → α → Prop} : ∀ n : Nat, (∀ i, i < n → ∃ x, Q i x) → ∃ l : List α, l.length = n ∧ ∀ i x, l[i]? = some x → Q i x
  | 0, _ => ⟨[], rfl, by simp⟩
  | n + 1, h => by
    obtain ⟨l, hl, hq⟩ := list_of n (fun i hi => h i (by omega))
    obtain ⟨x, hx⟩ := h n (by omega)
    refine ⟨l ++ [x], by simp [hl], fun i y hy => ?_⟩
    by_cases hi : i < l.length
    · rw [List.getElem?_append_left hi] at hy; exact hq i y hy
    · have hi2 : i < n + 1 := by have := (List.getElem?_eq_some_iff.1 hy).1; simp at this; omega
      obtain rfl : i = n := by omega
      rw [List.getElem?_append_right (by omega)] at hy
      simp [hl] at hy
      subst hy; exact hx
theorem row_words {k : IntKind} {A : Option Addr} {n c : Nat} {zs : List Int} (h : IsRow k w A n c zs) : Sees (Value.int k) w [] A (zs.take n) ∧ (zs.take n).length = n ∧ n ≤ c ∧ c ≤ maxLen ∧ ∀ z ∈ zs.take n, (Lit.int k z).wf = true := by
  rcases h with ⟨rfl, rfl, rfl, rfl⟩ | ⟨x, rfl, hl, hm, hz, hcell, hwf⟩
  · exact ⟨Sees.nil, rfl, by omega, by decide, by simp⟩
  · refine ⟨fun h0 => ?_, by simp; omega, hl, hm, fun z hz => hwf z (List.mem_of_mem_take hz)⟩
    obtain ⟨b, off, spot⟩ := x
    have h0' : 0 < n := by simp at h0; omega
    have hc0 := hcell 0 (by omega)
    have hspot : spot = none := by simpa [Addr.add] using World.cell?_spot hc0
    subst hspot
    refine ⟨b, off, rfl, by simp, fun j z hj => ?_⟩
    have hjl : j < n := by have := (List.getElem?_eq_some_iff.1 hj).1; simp at this; omega
    rw [List.getElem?_take_of_lt hjl] at hj
    have hc2 := hcell j (by omega)
    rw [add_none] at hc2
    rw [hc2]
    simp [List.getD, hj]
set_option maxRecDepth 100000 in
theorem one_of {t : TypeId} {fs : Array Field} (h : Try.prog.underlying t = some (.struct fs)) (h2 : (match Try.prog.underlying t with | some (.struct fs) => oneCellFields Try.prog fs | _ => false) = true) : oneCellFields Try.prog fs = true := by
  rw [h] at h2; exact h2
set_option maxRecDepth 100000 in
theorem open_op {fuel : Nat} {cs : List Value} {y : DataW H × List MemPlace} (h : DataW.trod enc Try.prog w base spare held fuel 51 cs = some y) : ∃ op : OpS, cs = op.cells ∧ OpOk w op := by
  obtain ⟨xs, n, _, _, hl, hlen, hg⟩ := DataW.trod_struct Try.underlying51 h
  have hone := one_of Try.underlying51 (by kernel_rfl)
  have hcl : cs.length = 5 := hl.trans (by kernel_rfl)
  replace hlen : xs.length = 5 := hlen
  match cs, hcl, xs, hlen with
  | [c0, c1, c2, c3, c4], _, [y0, y1, y2, y3, y4], _ =>
    obtain ⟨o0, k0⟩ := hone_of hone 0 _ rfl
    obtain ⟨o1, k1⟩ := hone_of hone 1 _ rfl
    obtain ⟨o2, k2⟩ := hone_of hone 2 _ rfl
    obtain ⟨o3, k3⟩ := hone_of hone 3 _ rfl
    obtain ⟨o4, k4⟩ := hone_of hone 4 _ rfl
    have g0 := hg 0 _ rfl
    have g1 := hg 1 _ rfl
    have g2 := hg 2 _ rfl
    have g3 := hg 3 _ rfl
    have g4 := hg 4 _ rfl
    rw [o0, k0] at g0
    rw [o1, k1] at g1
    rw [o2, k2] at g2
    rw [o3, k3] at g3
    rw [o4, k4] at g4
    replace g0 := g0.trans (show _ = some y0 from rfl)
    replace g1 := g1.trans (show _ = some y1 from rfl)
    replace g2 := g2.trans (show _ = some y2 from rfl)
    replace g3 := g3.trans (show _ = some y3 from rfl)
    replace g4 := g4.trans (show _ = some y4 from rfl)
    obtain ⟨z0, e0, _, w0⟩ := DataW.trod_int Try.underlying3 g0
    obtain ⟨z1, e1, _, w1⟩ := DataW.trod_int Try.underlying3 g1
    obtain ⟨z2, e2, _, w2⟩ := DataW.trod_int Try.underlying3 g2
    obtain ⟨z3, e3, _, w3⟩ := DataW.trod_int Try.underlying22 g3
    obtain ⟨A, m, c, bs, e4, hs, hb, hmc, hcm, hw⟩ := sees_row Try.underlying49 Try.underlying5 (by kernel_rfl) (show DataW.trod enc Try.prog w base spare held n 49 [c4] = some y4 from g4)
    obtain rfl : c0 = .int .i64 z0 := by simpa using e0
    obtain rfl : c1 = .int .i64 z1 := by simpa using e1
    obtain rfl : c2 = .int .i64 z2 := by simpa using e2
    obtain rfl : c3 = .int .u64 z3 := by simpa using e3
    subst e4
    refine ⟨⟨z0, z1, z2, z3, A, m, c, bs⟩, rfl, hs, hb, fun z hz => ?_, ?_, ?_, ?_⟩
    · have := hw z hz
      simp [Lit.wf, IntKind.min, IntKind.max, IntKind.signed, IntKind.bits] at this
      omega
    · simp [Lit.wf, IntKind.min, IntKind.max, IntKind.signed, IntKind.bits] at w2
      refine ⟨?_, ?_⟩
      · show _ ≤ z2; omega
      · show z2 ≤ _; omega
    · simp only [maxLen] at hcm
      show m ≤ _
      omega
    · simp [Lit.wf, IntKind.min, IntKind.max, IntKind.signed, IntKind.bits] at w3
      refine ⟨?_, ?_⟩
      · show _ ≤ z3; omega
      · show z3 ≤ _; omega
set_option maxRecDepth 100000 in
theorem open_script (W : World) {r : Reach} (b0 : Nat) (v : Value) (d : DataW H) (p : List MemPlace)
    (hv : Value.okWide Try.prog W r b0 46 v) (h : DataW.Trod enc Try.prog W base spare held 46 v d p) :
    ∃ x : Option Addr × Nat × Nat × List OpS, v = .slice x.1 x.2.1 x.2.2.1 ∧ (Script W x.1 x.2.2.2 ∧ x.2.2.2.length = x.2.1 ∧ x.2.1 ≤ 9223372036854775807) := by
  obtain ⟨a, len, cap, rfl⟩ := okWide_slice Try.underlying46 hv
  obtain ⟨fuel, hf⟩ := h
  have c5 : Try.prog.cellsOf 51 = 5 := by kernel_rfl
  rcases open_slice Try.underlying46 hf with ⟨hcs, _⟩ | ⟨x, l, c, m, n, D, Pl, hcs, _, hl, hm, hmm, _, hx⟩
  · simp [Value.cells] at hcs
    obtain ⟨rfl, rfl, rfl⟩ := hcs
    exact ⟨(none, 0, 0, []), rfl, ⟨fun h => absurd rfl h, by simp⟩, rfl, by show (0 : Nat) ≤ _; omega⟩
  · simp [Value.cells] at hcs
    obtain ⟨rfl, rfl, rfl⟩ := hcs
    rw [c5] at hx
    have hlm : len ≤ m := by rw [hmm]; split <;> omega
    obtain ⟨ops, hol, hq⟩ := list_of (Q := fun i (op : OpS) => OpOk W op ∧ ∀ j u, op.cells[j]? = some u → W.cell? (x.add (i * 5 + j)) = some u) len (fun i hi => by
      obtain ⟨cs', hc, ht⟩ := hx i (by omega)
      obtain ⟨op, rfl, hok⟩ := open_op ht
      obtain ⟨_, hcl, hat⟩ := World.cells?_some hc
      refine ⟨op, hok, fun j u hj => ?_⟩
      have hj5 : j < 5 := by have := (List.getElem?_eq_some_iff.1 hj).1; rw [hcl] at this; exact this
      rw [← Go.Deep.add_add, hat j hj5, hj])
    refine ⟨(some x, len, cap, ops), rfl, ⟨fun h0 => ?_, fun op hop => ?_⟩, hol, by simp only [maxLen] at hm; show len ≤ _; omega⟩
    · have h00 : ops.length ≠ 0 := h0
      obtain ⟨op0, hop0⟩ : ∃ op, ops[0]? = some op := ⟨_, List.getElem?_eq_getElem (by omega)⟩
      obtain ⟨b, off, spot⟩ := x
      have hc0 := (hq 0 op0 hop0).2 0 _ rfl
      have hspot : spot = none := by simpa [Addr.add] using World.cell?_spot hc0
      subst hspot
      refine ⟨b, off, rfl, fun i op hi j u hu => ?_⟩
      have := (hq i op hi).2 j u hu
      rw [add_none] at this
      rw [Nat.add_assoc]; exact this
    · obtain ⟨i, hi, rfl⟩ := List.mem_iff_getElem.1 hop
      exact (hq i _ (List.getElem?_eq_getElem hi)).1
end
open Go.RowKit
theorem OpOk.later {w W : World} {o : OpS} (h : OpOk w o) (hO : Only [] w W) : OpOk W o := ⟨h.see.later hO (by simp), h.len, h.bd, h.n1, h.ncb, h.vb⟩
theorem Script.later {w W : World} {A : Option Addr} {ops : List OpS} (h : Script w A ops) (hO : Only [] w W) : Script W A ops :=
  ⟨fun h0 => by
    obtain ⟨b, o, e, hr⟩ := h.1 h0
    exact ⟨b, o, e, fun i op hi => (hr i op hi).later hO (by simp)⟩, fun op hop => (h.2 op hop).later hO⟩
end Go.Proofs.Ytmekhdclnhhhbaa
end

section
namespace Go.Proofs.Ytmekhdclnhhhbaa
open Go.RowKit
set_option linter.unusedSimpArgs false
set_option linter.unusedVariables false
section
variable {P : Program} {n : Nat} {f : Nat → Value} {x y : Operand} {t t2 ty : TypeId} {pos : String} {af : Array Edge} {g : Option (Nat × Bool)} {dst : Option Tmp} {W : World}
end
end Go.Proofs.Ytmekhdclnhhhbaa
end
