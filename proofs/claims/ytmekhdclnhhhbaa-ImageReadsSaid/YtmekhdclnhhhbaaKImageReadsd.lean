/- Parts of the proof, one behind the other. -/
import Derived.Deep.Slices
import Derived.Deep.Fields
import Derived.ChangeSame
import Derived.Laws.BytesArg
import Derived.Deep.RegionHeld3
import Derived.Test.YtmekhdclnhhhbaaKImageReadsc
section
namespace Go.Proofs.Ytmekhdclnhhhbaa
open Go.RowKit
set_option linter.unusedSimpArgs false
set_option linter.unusedVariables false
theorem Reads.sees {α : Type} {enc : α → Value} {W : World} {b o : Nat} {xs : List α} (h : Reads enc W b o xs) : Sees enc W [] (some ⟨b, o, none⟩) xs := fun _ => ⟨b, o, rfl, by simp, h⟩
theorem Gives.vec {k : IntKind} {T : TypeId} {xs : List Int} {w w' : World} {e : Ending} (h : Gives k T xs w e w') (h0 : 0 < xs.length) :
    ∃ b c, e = .returned (.slice (some ⟨b, 0, none⟩) xs.length c) ∧ xs.length ≤ c ∧ c ≤ maxLen ∧ Heap w [] [vec (Value.int k) b xs T] w' := by
  obtain ⟨A, c, rfl, H⟩ := h
  obtain ⟨b, c2, he, h1, h2, H2⟩ := own_vec H h0
  exact ⟨b, c2, congrArg _ he, h1, h2, H2⟩
def LdPost (R : List Int × Int) (w : World) (e : Ending) (w' : World) : Prop :=
  (R.2 ≠ 0 ∧ e = .returned (.tuple #[.pointer none, .int .i64 R.2]) ∧ Only [] w w') ∨
  (R.2 = 0 ∧ ∃ g, e = .returned (.tuple #[ptr g.p, .int .i64 0]) ∧ GOk g (R.1.length / 8) ∧ Heap w [] (devL g (Nv.load R.1 (R.1.length / 8))) w')
/-- the words of the bytes, and what Load asks of them -/
theorem load_words (xs : List Int) (hU : By.IsBytes xs) (h : ¬ (xs.length < 24 ∨ xs.length % 8 ≠ 0)) :
    ∃ (W : List Int) (x0 x1 xl : Int), By.words xs = W ∧ W.length = xs.length / 8 ∧ Im.U W ∧ W[0]? = some x0 ∧ W[1]? = some x1 ∧ W[W.length - 1]? = some xl ∧
      Im.load xs = (if x0 ≠ 13905993476890996 then ([], 24) else if xl ≠ Im.sum (W.take (W.length - 1)) then ([], 25) else if x1 > 131072 ∨ x1 % 8 ≠ 0 then ([], 26) else Im.read (x1.toNat + 1) ((W.take (W.length - 1)).drop 2) x1 []) := by
  have hl : (By.words xs).length = xs.length / 8 := by rw [By.words_len]; omega
  have h0 : (By.words xs)[0]? = some ((By.words xs).getD 0 0) := by rw [List.getD_eq_getElem?_getD, List.getElem?_eq_getElem (by omega)]; rfl
  have h1 : (By.words xs)[1]? = some ((By.words xs).getD 1 0) := by rw [List.getD_eq_getElem?_getD, List.getElem?_eq_getElem (by omega)]; rfl
  have h2 : (By.words xs)[(By.words xs).length - 1]? = some ((By.words xs).getD ((By.words xs).length - 1) 0) := by rw [List.getD_eq_getElem?_getD, List.getElem?_eq_getElem (by omega)]; rfl
  refine ⟨By.words xs, _, _, _, rfl, hl, By.words_wf xs hU, h0, h1, h2, ?_⟩
  unfold Im.load
  rw [if_neg h]
  rfl
theorem hfin {w W W' : World} {L : List Ent} {g : Geo} {d : Nv.D} (H : Heap w [] L W) (H' : Heap W [] (devL g d) W') : Heap w [] (devL g d) W' := (H.more H').drops
theorem iLoad (A : Option Addr) (n c : Nat) (xs : List Int) (w : World) (hz : Sees (Value.int .u8) w [] A xs) (hl : xs.length = n) (hU : By.IsBytes xs) (hn : n ≤ 1000000) :
    Calls Try.prog 45 [.slice A n c].toArray w (LdPost (Im.load xs) w) := by
  have H := Heap.nil w
  by_cases hbad : xs.length < 24 ∨ xs.length % 8 ≠ 0
  · have e : Im.load xs = ([], 31) := by unfold Im.load; rw [if_pos hbad]
    rw [e]
    by_cases h8 : n % 8 = 0
    · refine k_in (N := 69) Try.func45 rfl rfl rfl ?_
      refine k_seq ?_
      refine k_rg ?_
      refine s_run rfl rfl (r_as (v := .pointer _) rfl) ?_
      refine s_run rfl rfl (r_as (v := .int _ _) rfl) ?_
      refine k_nil ?_
      refine c_norm ?_
      refine k_seq ?_
      refine k_seq ?_
      refine k_rg ?_
      refine s_run rfl rfl (r_mv (v := .slice _ _ _) rfl) ?_
      refine s_run rfl rfl (r_len rfl Try.underlying49) ?_
      refine s_run rfl rfl (r_rem rfl rfl (by omega)) ?_
      refine s_run rfl rfl (r_neqF rfl rfl (by omega)) ?_
      refine s_run rfl rfl (r_mv (v := .bool _) rfl) ?_
      refine s_run rfl (g_on 13 (by kernel_rfl) rfl) (r_mv (v := .slice _ _ _) rfl) ?_
      refine s_run rfl (g_on 13 (by kernel_rfl) rfl) (r_len rfl Try.underlying49) ?_
      refine s_run rfl (g_on 13 (by kernel_rfl) rfl) (r_lssT rfl rfl (by omega)) ?_
      refine s_run rfl rfl (r_pkF (v := .bool _) rfl rfl) ?_
      refine k_nil ?_
      refine c_norm ?_
      refine k_t rfl ?_
      refine k_seq ?_
      refine k_rg ?_
      refine s_run rfl rfl (r_as (v := .pointer _) rfl) ?_
      refine s_run rfl rfl (r_as (v := .int _ _) rfl) ?_
      refine k_nil ?_
      refine c_norm ?_
      refine k_ret ?_
      refine c_ret ?_
      refine fin2r (v := .pointer _) (v2 := .int _ _) rfl rfl rfl ?_
      exact .inl ⟨by decide, rfl, H.only⟩
    · refine k_in (N := 69) Try.func45 rfl rfl rfl ?_
      refine k_seq ?_
      refine k_rg ?_
      refine s_run rfl rfl (r_as (v := .pointer _) rfl) ?_
      refine s_run rfl rfl (r_as (v := .int _ _) rfl) ?_
      refine k_nil ?_
      refine c_norm ?_
      refine k_seq ?_
      refine k_seq ?_
      refine k_rg ?_
      refine s_run rfl rfl (r_mv (v := .slice _ _ _) rfl) ?_
      refine s_run rfl rfl (r_len rfl Try.underlying49) ?_
      refine s_run rfl rfl (r_rem rfl rfl (by omega)) ?_
      refine s_run rfl rfl (r_neqT rfl rfl (by omega)) ?_
      refine s_run rfl rfl (r_mv (v := .bool _) rfl) ?_
      refine s_off rfl (g_off 13 (by kernel_rfl) rfl rfl) ?_
      refine s_off rfl (g_off 13 (by kernel_rfl) rfl rfl) ?_
      refine s_off rfl (g_off 13 (by kernel_rfl) rfl rfl) ?_
      refine s_run rfl rfl (r_pkT (v := .bool _) rfl rfl) ?_
      refine k_nil ?_
      refine c_norm ?_
      refine k_t rfl ?_
      refine k_seq ?_
      refine k_rg ?_
      refine s_run rfl rfl (r_as (v := .pointer _) rfl) ?_
      refine s_run rfl rfl (r_as (v := .int _ _) rfl) ?_
      refine k_nil ?_
      refine c_norm ?_
      refine k_ret ?_
      refine c_ret ?_
      refine fin2r (v := .pointer _) (v2 := .int _ _) rfl rfl rfl ?_
      exact .inl ⟨by decide, rfl, H.only⟩
  · obtain ⟨W0, x0, x1, xl, hW, hWl, hWU, hx0, hx1, hxl, hld⟩ := load_words xs hU hbad
    have hx1b := hWU x1 (List.mem_of_getElem? hx1)
    have hsv := Im.save_load (R := (Im.load xs).1) hU
    have hWd := fun w hz => (cWordsOf A n c xs w hz hl hU hn).mono (fun e w' h => h.vec (by rw [hW]; omega))
    rw [hW] at hWd
    generalize hR : Im.load xs = R at *
    have hq2 : (W0.take (W0.length - 1)).length = W0.length - 1 := by rw [List.length_take]; omega
    refine k_in (N := 69) Try.func45 rfl rfl rfl ?_
    refine k_seq ?_
    refine k_rg ?_
    refine s_run rfl rfl (r_as (v := .pointer _) rfl) ?_
    refine s_run rfl rfl (r_as (v := .int _ _) rfl) ?_
    refine k_nil ?_
    refine c_norm ?_
    refine k_seq ?_
    refine k_seq ?_
    refine k_rg ?_
    refine s_run rfl rfl (r_mv (v := .slice _ _ _) rfl) ?_
    refine s_run rfl rfl (r_len rfl Try.underlying49) ?_
    refine s_run rfl rfl (r_rem rfl rfl (by omega)) ?_
    refine s_run rfl rfl (r_neqF rfl rfl (by omega)) ?_
    refine s_run rfl rfl (r_mv (v := .bool _) rfl) ?_
    refine s_run rfl (g_on 13 (by kernel_rfl) rfl) (r_mv (v := .slice _ _ _) rfl) ?_
    refine s_run rfl (g_on 13 (by kernel_rfl) rfl) (r_len rfl Try.underlying49) ?_
    refine s_run rfl (g_on 13 (by kernel_rfl) rfl) (r_lssF rfl rfl (by omega)) ?_
    refine s_run rfl rfl (r_pkF (v := .bool _) rfl rfl) ?_
    refine k_nil ?_
    refine c_norm ?_
    refine k_f rfl ?_
    refine k_skip ?_
    refine c_norm ?_
    refine k_seq ?_
    refine k_rg ?_
    refine s_run rfl rfl (r_mv (v := .slice _ _ _) rfl) ?_
    refine s_call rfl (hWd _ (hz.later H.only (by simp))) (ca81 rfl) ?_
    rintro e W1 ⟨b, cb, rfl, hcb, hcm, H'⟩
    refine ⟨_, rfl, ?_⟩
    have H := H.more (A := [_]) H'; clear H'; simp only [List.cons_append, List.nil_append] at H
    refine s_run rfl rfl (r_as (v := .slice _ _ _) rfl) ?_
    refine k_nil ?_
    refine c_norm ?_
    refine k_seq ?_
    unfold maxLen at hcm
    have hsum := Im.sum_bd (W0.take (W0.length - 1))
    by_cases c0 : x0 = 13905993476890996
    · rw [if_neg (by simpa using c0)] at hld
      subst c0
      by_cases c1 : xl = Im.sum (W0.take (W0.length - 1))
      · rw [if_neg (by simpa using c1)] at hld
        by_cases c2 : x1 > 131072 ∨ x1 % 8 ≠ 0
        · rw [if_pos c2] at hld
          subst hld
          by_cases c3 : x1 > 131072
          · refine k_q mixed (by kernel_rfl) H ?_
            refine q_run rfl rfl (fun _ H => r_mv (v := .slice _ _ _) rfl) ?_
            refine q_run rfl rfl (fun _ H => r_mv (v := .slice _ _ _) rfl) ?_
            refine q_run rfl rfl (fun _ H => r_len rfl Try.underlying25) ?_
            refine q_run rfl rfl (fun _ H => r_sub rfl rfl (wI (by omega))) ?_
            refine q_run rfl rfl (fun _ H => r_shi (j := W0.length - 1) rfl rfl (by omega) (by omega) Try.underlying25 sz22) ?_
            refine q_run rfl rfl (fun _ H => r_mv (v := .slice _ _ _) rfl) ?_
            refine q_run rfl rfl (fun _ H => r_mv (v := .slice _ _ _) rfl) ?_
            refine q_run rfl rfl (fun _ H => r_len rfl Try.underlying25) ?_
            refine q_run rfl rfl (fun _ H => r_sub rfl rfl (wI (by omega))) ?_
            refine q_run rfl rfl (fun _ H => r_ix1 (i := W0.length - 1) rfl rfl (by omega) (by omega) Try.underlying25 sz22) ?_
            refine q_run rfl rfl (fun _ H => r_lv H 0 rfl rfl hxl ag22) ?_
            refine q_run rfl rfl (fun _ H => r_as (v := .slice _ _ _) rfl) ?_
            refine q_run rfl rfl (fun _ H => r_as (v := .int _ _) rfl) ?_
            refine q_nil ?_
            intro _ H'; clear H; have H := H'; clear H'
            refine c_norm ?_
            refine k_seq ?_
            refine k_b ?_
            refine k_seq ?_
            refine k_rg ?_
            refine s_run rfl rfl (r_mv (v := .slice _ _ _) rfl) ?_
            refine s_run rfl rfl (r_ix1 (i := 0) rfl rfl (by omega) (by omega) Try.underlying25 sz22) ?_
            refine s_run rfl rfl (r_lv H 0 rfl rfl hx0 ag22) ?_
            refine s_run rfl rfl (r_neqF rfl rfl (by omega)) ?_
            refine s_run rfl rfl (r_as (v := .bool _) rfl) ?_
            refine k_nil ?_
            refine c_norm ?_
            refine k_f rfl ?_
            refine k_seq ?_
            refine k_rg ?_
            refine s_run rfl rfl (r_mv (v := .int _ _) rfl) ?_
            refine s_run rfl rfl (r_mv (v := .slice _ _ _) rfl) ?_
            refine s_call rfl (cWords _ _ _ (W0.take (W0.length - 1)) _ (((by simpa using H.reads 0 rfl 0 (W0.length - 1) : Reads (Value.int .u64) _ b 0 (W0.take (W0.length - 1)))).sees) hq2 (hWU.take _) (by omega)) (ca82 rfl) ?_
            rintro e W1 ⟨rfl, H'⟩
            refine ⟨_, rfl, ?_⟩
            have H := H.same H'; clear H'
            refine s_run rfl rfl (r_cv rfl (by kernel_rfl) Try.underlying22 (wU (by omega))) ?_
            refine s_run rfl rfl (r_neqF rfl rfl (by omega)) ?_
            refine s_run rfl rfl (r_as (v := .bool _) rfl) ?_
            refine k_nil ?_
            refine c_norm ?_
            refine k_f rfl ?_
            refine k_seq ?_
            refine k_rg ?_
            refine s_run rfl rfl (r_mv (v := .slice _ _ _) rfl) ?_
            refine s_run rfl rfl (r_ix1 (i := 1) rfl rfl (by omega) (by omega) Try.underlying25 sz22) ?_
            refine s_run rfl rfl (r_lv H 0 rfl rfl hx1 ag22) ?_
            refine s_run rfl rfl (r_gtrT rfl rfl (by omega)) ?_
            refine s_run rfl rfl (r_mv (v := .bool _) rfl) ?_
            refine s_off rfl (g_off 47 (by kernel_rfl) rfl rfl) ?_
            refine s_off rfl (g_off 47 (by kernel_rfl) rfl rfl) ?_
            refine s_off rfl (g_off 47 (by kernel_rfl) rfl rfl) ?_
            refine s_off rfl (g_off 47 (by kernel_rfl) rfl rfl) ?_
            refine s_off rfl (g_off 47 (by kernel_rfl) rfl rfl) ?_
            refine s_run rfl rfl (r_pkT (v := .bool _) rfl rfl) ?_
            refine s_run rfl rfl (r_as (v := .bool _) rfl) ?_
            refine k_nil ?_
            refine c_norm ?_
            refine k_t rfl ?_
            refine k_seq ?_
            refine k_rg ?_
            refine s_run rfl rfl (r_as (v := .pointer _) rfl) ?_
            refine s_run rfl rfl (r_as (v := .int _ _) rfl) ?_
            refine k_nil ?_
            refine c_norm ?_
            refine k_ret ?_
            refine b_ret ?_
            refine c_ret ?_
            refine fin2r (v := .pointer _) (v2 := .int _ _) rfl rfl rfl ?_
            exact .inl ⟨by decide, rfl, H.only⟩
          · refine k_q mixed (by kernel_rfl) H ?_
            refine q_run rfl rfl (fun _ H => r_mv (v := .slice _ _ _) rfl) ?_
            refine q_run rfl rfl (fun _ H => r_mv (v := .slice _ _ _) rfl) ?_
            refine q_run rfl rfl (fun _ H => r_len rfl Try.underlying25) ?_
            refine q_run rfl rfl (fun _ H => r_sub rfl rfl (wI (by omega))) ?_
            refine q_run rfl rfl (fun _ H => r_shi (j := W0.length - 1) rfl rfl (by omega) (by omega) Try.underlying25 sz22) ?_
            refine q_run rfl rfl (fun _ H => r_mv (v := .slice _ _ _) rfl) ?_
            refine q_run rfl rfl (fun _ H => r_mv (v := .slice _ _ _) rfl) ?_
            refine q_run rfl rfl (fun _ H => r_len rfl Try.underlying25) ?_
            refine q_run rfl rfl (fun _ H => r_sub rfl rfl (wI (by omega))) ?_
            refine q_run rfl rfl (fun _ H => r_ix1 (i := W0.length - 1) rfl rfl (by omega) (by omega) Try.underlying25 sz22) ?_
            refine q_run rfl rfl (fun _ H => r_lv H 0 rfl rfl hxl ag22) ?_
            refine q_run rfl rfl (fun _ H => r_as (v := .slice _ _ _) rfl) ?_
            refine q_run rfl rfl (fun _ H => r_as (v := .int _ _) rfl) ?_
            refine q_nil ?_
            intro _ H'; clear H; have H := H'; clear H'
            refine c_norm ?_
            refine k_seq ?_
            refine k_b ?_
            refine k_seq ?_
            refine k_rg ?_
            refine s_run rfl rfl (r_mv (v := .slice _ _ _) rfl) ?_
            refine s_run rfl rfl (r_ix1 (i := 0) rfl rfl (by omega) (by omega) Try.underlying25 sz22) ?_
            refine s_run rfl rfl (r_lv H 0 rfl rfl hx0 ag22) ?_
            refine s_run rfl rfl (r_neqF rfl rfl (by omega)) ?_
            refine s_run rfl rfl (r_as (v := .bool _) rfl) ?_
            refine k_nil ?_
            refine c_norm ?_
            refine k_f rfl ?_
            refine k_seq ?_
            refine k_rg ?_
            refine s_run rfl rfl (r_mv (v := .int _ _) rfl) ?_
            refine s_run rfl rfl (r_mv (v := .slice _ _ _) rfl) ?_
            refine s_call rfl (cWords _ _ _ (W0.take (W0.length - 1)) _ (((by simpa using H.reads 0 rfl 0 (W0.length - 1) : Reads (Value.int .u64) _ b 0 (W0.take (W0.length - 1)))).sees) hq2 (hWU.take _) (by omega)) (ca82 rfl) ?_
            rintro e W1 ⟨rfl, H'⟩
            refine ⟨_, rfl, ?_⟩
            have H := H.same H'; clear H'
            refine s_run rfl rfl (r_cv rfl (by kernel_rfl) Try.underlying22 (wU (by omega))) ?_
            refine s_run rfl rfl (r_neqF rfl rfl (by omega)) ?_
            refine s_run rfl rfl (r_as (v := .bool _) rfl) ?_
            refine k_nil ?_
            refine c_norm ?_
            refine k_f rfl ?_
            refine k_seq ?_
            refine k_rg ?_
            refine s_run rfl rfl (r_mv (v := .slice _ _ _) rfl) ?_
            refine s_run rfl rfl (r_ix1 (i := 1) rfl rfl (by omega) (by omega) Try.underlying25 sz22) ?_
            refine s_run rfl rfl (r_lv H 0 rfl rfl hx1 ag22) ?_
            refine s_run rfl rfl (r_gtrF rfl rfl (by omega)) ?_
            refine s_run rfl rfl (r_mv (v := .bool _) rfl) ?_
            refine s_run rfl (g_on 47 (by kernel_rfl) rfl) (r_mv (v := .slice _ _ _) rfl) ?_
            refine s_run rfl (g_on 47 (by kernel_rfl) rfl) (r_ix1 (i := 1) rfl rfl (by omega) (by omega) Try.underlying25 sz22) ?_
            refine s_run rfl (g_on 47 (by kernel_rfl) rfl) (r_lv H 0 rfl rfl hx1 ag22) ?_
            refine s_run rfl (g_on 47 (by kernel_rfl) rfl) (r_rem rfl rfl (by omega)) ?_
            refine s_run rfl (g_on 47 (by kernel_rfl) rfl) (r_neqT rfl rfl (by omega)) ?_
            refine s_run rfl rfl (r_pkF (v := .bool _) rfl rfl) ?_
            refine s_run rfl rfl (r_as (v := .bool _) rfl) ?_
            refine k_nil ?_
            refine c_norm ?_
            refine k_t rfl ?_
            refine k_seq ?_
            refine k_rg ?_
            refine s_run rfl rfl (r_as (v := .pointer _) rfl) ?_
            refine s_run rfl rfl (r_as (v := .int _ _) rfl) ?_
            refine k_nil ?_
            refine c_norm ?_
            refine k_ret ?_
            refine b_ret ?_
            refine c_ret ?_
            refine fin2r (v := .pointer _) (v2 := .int _ _) rfl rfl rfl ?_
            exact .inl ⟨by decide, rfl, H.only⟩
        · rw [if_neg c2] at hld
          obtain ⟨N, rfl⟩ := Int.eq_ofNat_of_zero_le hx1b.1
          rw [Int.toNat_natCast] at hld
          obtain ⟨o2, ho2, hr2⟩ : ∃ o2, (if cb = 2 then (⟨b, 0, none⟩ : Addr) else ⟨b, 0 + 2 * 1, none⟩) = ⟨b, o2, none⟩ ∧ ∀ W, Reads (Value.int .u64) W b 0 (W0.take (W0.length - 1)) → Reads (Value.int .u64) W b o2 ((W0.take (W0.length - 1)).drop 2) := by
            refine ⟨2, by rw [if_neg (by omega)], fun W hr => ?_⟩
            obtain ⟨o2, h1, h2⟩ := reads_drop (c := cb) hr 2 (by omega) (by omega)
            rw [if_neg (by omega)] at h1
            injection h1 with _ h1
            rw [← h1] at h2
            simpa using h2
          have hdl : ((W0.take (W0.length - 1)).drop 2).length = W0.length - 1 - 2 := by rw [List.length_drop, hq2]
          have hRd := fun W hr => iRead b o2 (cb - 2) N ((W0.take (W0.length - 1)).drop 2) W hr (by omega) (by omega) ((hWU.take _).drop _) (by omega)
          rw [← hld, hdl] at hRd
          clear hld
          by_cases c4 : R.2 = 0
          · obtain ⟨hs1, hs2, hs3, hs4⟩ := hsv (Prod.ext rfl c4)
            have hL : ∀ A c W, Sees (Value.int .u64) W [] A R.1 → Calls Try.prog 16 [.slice A R.1.length c].toArray W fun e w' => ∃ g, e = .returned (ptr g.p) ∧ GOk g (R.1.length / 8) ∧ Heap W [] (devL g (Nv.load R.1 (R.1.length / 8))) w' := by
              intro A c W hz
              have h := nLoad A R.1.length c R.1 W hz rfl (by omega)
              rw [show (R.1.length + 7) / 8 = R.1.length / 8 by omega, show 8 * (R.1.length / 8) - R.1.length = 0 by omega, List.replicate_zero, List.append_nil] at h
              exact h
            refine k_q mixed (by kernel_rfl) H ?_
            refine q_run rfl rfl (fun _ H => r_mv (v := .slice _ _ _) rfl) ?_
            refine q_run rfl rfl (fun _ H => r_mv (v := .slice _ _ _) rfl) ?_
            refine q_run rfl rfl (fun _ H => r_len rfl Try.underlying25) ?_
            refine q_run rfl rfl (fun _ H => r_sub rfl rfl (wI (by omega))) ?_
            refine q_run rfl rfl (fun _ H => r_shi (j := W0.length - 1) rfl rfl (by omega) (by omega) Try.underlying25 sz22) ?_
            refine q_run rfl rfl (fun _ H => r_mv (v := .slice _ _ _) rfl) ?_
            refine q_run rfl rfl (fun _ H => r_mv (v := .slice _ _ _) rfl) ?_
            refine q_run rfl rfl (fun _ H => r_len rfl Try.underlying25) ?_
            refine q_run rfl rfl (fun _ H => r_sub rfl rfl (wI (by omega))) ?_
            refine q_run rfl rfl (fun _ H => r_ix1 (i := W0.length - 1) rfl rfl (by omega) (by omega) Try.underlying25 sz22) ?_
            refine q_run rfl rfl (fun _ H => r_lv H 0 rfl rfl hxl ag22) ?_
            refine q_run rfl rfl (fun _ H => r_as (v := .slice _ _ _) rfl) ?_
            refine q_run rfl rfl (fun _ H => r_as (v := .int _ _) rfl) ?_
            refine q_nil ?_
            intro _ H'; clear H; have H := H'; clear H'
            refine c_norm ?_
            refine k_seq ?_
            refine k_b ?_
            refine k_seq ?_
            refine k_rg ?_
            refine s_run rfl rfl (r_mv (v := .slice _ _ _) rfl) ?_
            refine s_run rfl rfl (r_ix1 (i := 0) rfl rfl (by omega) (by omega) Try.underlying25 sz22) ?_
            refine s_run rfl rfl (r_lv H 0 rfl rfl hx0 ag22) ?_
            refine s_run rfl rfl (r_neqF rfl rfl (by omega)) ?_
            refine s_run rfl rfl (r_as (v := .bool _) rfl) ?_
            refine k_nil ?_
            refine c_norm ?_
            refine k_f rfl ?_
            refine k_seq ?_
            refine k_rg ?_
            refine s_run rfl rfl (r_mv (v := .int _ _) rfl) ?_
            refine s_run rfl rfl (r_mv (v := .slice _ _ _) rfl) ?_
            refine s_call rfl (cWords _ _ _ (W0.take (W0.length - 1)) _ (((by simpa using H.reads 0 rfl 0 (W0.length - 1) : Reads (Value.int .u64) _ b 0 (W0.take (W0.length - 1)))).sees) hq2 (hWU.take _) (by omega)) (ca82 rfl) ?_
            rintro e W1 ⟨rfl, H'⟩
            refine ⟨_, rfl, ?_⟩
            have H := H.same H'; clear H'
            refine s_run rfl rfl (r_cv rfl (by kernel_rfl) Try.underlying22 (wU (by omega))) ?_
            refine s_run rfl rfl (r_neqF rfl rfl (by omega)) ?_
            refine s_run rfl rfl (r_as (v := .bool _) rfl) ?_
            refine k_nil ?_
            refine c_norm ?_
            refine k_f rfl ?_
            refine k_seq ?_
            refine k_rg ?_
            refine s_run rfl rfl (r_mv (v := .slice _ _ _) rfl) ?_
            refine s_run rfl rfl (r_ix1 (i := 1) rfl rfl (by omega) (by omega) Try.underlying25 sz22) ?_
            refine s_run rfl rfl (r_lv H 0 rfl rfl hx1 ag22) ?_
            refine s_run rfl rfl (r_gtrF rfl rfl (by omega)) ?_
            refine s_run rfl rfl (r_mv (v := .bool _) rfl) ?_
            refine s_run rfl (g_on 47 (by kernel_rfl) rfl) (r_mv (v := .slice _ _ _) rfl) ?_
            refine s_run rfl (g_on 47 (by kernel_rfl) rfl) (r_ix1 (i := 1) rfl rfl (by omega) (by omega) Try.underlying25 sz22) ?_
            refine s_run rfl (g_on 47 (by kernel_rfl) rfl) (r_lv H 0 rfl rfl hx1 ag22) ?_
            refine s_run rfl (g_on 47 (by kernel_rfl) rfl) (r_rem rfl rfl (by omega)) ?_
            refine s_run rfl (g_on 47 (by kernel_rfl) rfl) (r_neqF rfl rfl (by omega)) ?_
            refine s_run rfl rfl (r_pkF (v := .bool _) rfl rfl) ?_
            refine s_run rfl rfl (r_as (v := .bool _) rfl) ?_
            refine k_nil ?_
            refine c_norm ?_
            refine k_f rfl ?_
            refine k_skip ?_
            refine b_norm ?_
            refine c_norm ?_
            refine k_seq ?_
            refine k_trF mixed ?_; have H' := H.drew; clear H; have H := H'; clear H'
            refine t_take 0 rfl (by kernel_rfl) (by kernel_rfl) (by kernel_rfl) rfl (fun _ _ _ _ h => h) rfl (fun _ hS => r_mv (v := .slice _ _ _) rfl) trivial ?_
            refine t_take 1 rfl (by kernel_rfl) (by kernel_rfl) (by kernel_rfl) rfl (fun _ _ _ _ h => h) rfl (fun _ hS => r_slo' (i := 2) (o2 := o2) (l2 := W0.length - 1 - 2) (c2 := cb - 2) rfl rfl rfl (by omega) ho2 (by omega) rfl Try.underlying25 sz22) trivial ?_
            refine t_take 2 rfl (by kernel_rfl) (by kernel_rfl) (by kernel_rfl) rfl (fun _ _ _ _ h => h) rfl (fun _ hS => r_mv (v := .slice _ _ _) rfl) trivial ?_
            refine t_take 3 rfl (by kernel_rfl) (by kernel_rfl) (by kernel_rfl) rfl (fun _ _ _ _ h => h) rfl (fun _ hS => r_ix1 (i := 1) rfl rfl (by omega) (by omega) Try.underlying25 sz22) trivial ?_
            refine t_up1 4 (by kernel_rfl) ?_
            refine up_mk rfl ?_
            refine s_run rfl rfl (r_lv H 0 rfl rfl hx1 ag22) ?_
            refine k_nil ?_
            refine t_on trivial ?_
            refine t_take 5 rfl (by kernel_rfl) (by kernel_rfl) (by kernel_rfl) rfl (fun _ _ _ _ h => h) rfl (fun _ hS => r_cv rfl (by kernel_rfl) Try.underlying3 (wI (by omega))) trivial ?_
            refine t_up1 6 (by kernel_rfl) ?_
            refine up_mk rfl ?_
            refine s_call rfl (hRd _ (hr2 _ ((by simpa using H.reads 0 rfl 0 (W0.length - 1) : Reads (Value.int .u64) _ b 0 (W0.take (W0.length - 1)))))) (ca83 rfl) ?_
            rintro e W1 ⟨A', c', rfl, H'⟩
            refine ⟨_, rfl, ?_⟩
            have H := H.more (A := [_]) H'; clear H'; simp only [List.cons_append, List.nil_append] at H
            refine k_nil ?_
            refine t_on trivial ?_
            refine t_take 7 rfl (by kernel_rfl) (by kernel_rfl) (by kernel_rfl) rfl (fun _ _ _ _ h => h) rfl (fun _ hS => r_mv (v := .tuple _) rfl) trivial ?_
            refine t_take 8 rfl (by kernel_rfl) (by kernel_rfl) (by kernel_rfl) rfl (fun _ _ _ _ h => h) rfl (fun _ hS => r_ext (v := .slice _ _ _) rfl rfl) trivial ?_
            refine t_take 9 rfl (by kernel_rfl) (by kernel_rfl) (by kernel_rfl) rfl (fun _ _ _ _ h => h) rfl (fun _ hS => r_ext (v := .int _ _) rfl rfl) trivial ?_
            refine t_take 10 rfl (by kernel_rfl) (by kernel_rfl) (by kernel_rfl) rfl (fun _ _ _ _ h => h) rfl (fun _ hS => r_as (v := .slice _ _ _) rfl) trivial ?_
            refine t_take 11 rfl (by kernel_rfl) (by kernel_rfl) (by kernel_rfl) rfl (fun _ _ _ _ h => h) rfl (fun _ hS => r_as (v := .int _ _) rfl) trivial ?_
            refine t_done (by kernel_rfl) ?_
            refine c_norm ?_
            refine k_seq ?_
            refine k_seq ?_
            refine k_rg ?_
            refine s_run rfl rfl (r_mv (v := .int _ _) rfl) ?_
            refine s_run rfl rfl (r_neqF rfl rfl (by omega)) ?_
            refine k_nil ?_
            refine c_norm ?_
            refine k_f rfl ?_
            refine k_skip ?_
            refine c_norm ?_
            refine k_seq ?_
            refine k_rg ?_
            refine s_run rfl rfl (r_mv (v := .slice _ _ _) rfl) ?_
            refine s_call rfl (hL _ _ _ (H.own_sees 0 rfl)) (ca16 rfl) ?_
            rintro e W1 ⟨g, rfl, hg, H'⟩
            refine ⟨_, rfl, ?_⟩
            skip
            refine s_run rfl rfl (r_as (v := .pointer _) rfl) ?_
            refine s_run rfl rfl (r_as (v := .int _ _) rfl) ?_
            refine k_nil ?_
            refine c_norm ?_
            refine k_ret ?_
            refine fin2r (v := .pointer _) (v2 := .int _ _) rfl rfl rfl ?_
            exact .inr ⟨c4, g, rfl, hg, hfin H H'⟩
          · refine k_q mixed (by kernel_rfl) H ?_
            refine q_run rfl rfl (fun _ H => r_mv (v := .slice _ _ _) rfl) ?_
            refine q_run rfl rfl (fun _ H => r_mv (v := .slice _ _ _) rfl) ?_
            refine q_run rfl rfl (fun _ H => r_len rfl Try.underlying25) ?_
            refine q_run rfl rfl (fun _ H => r_sub rfl rfl (wI (by omega))) ?_
            refine q_run rfl rfl (fun _ H => r_shi (j := W0.length - 1) rfl rfl (by omega) (by omega) Try.underlying25 sz22) ?_
            refine q_run rfl rfl (fun _ H => r_mv (v := .slice _ _ _) rfl) ?_
            refine q_run rfl rfl (fun _ H => r_mv (v := .slice _ _ _) rfl) ?_
            refine q_run rfl rfl (fun _ H => r_len rfl Try.underlying25) ?_
            refine q_run rfl rfl (fun _ H => r_sub rfl rfl (wI (by omega))) ?_
            refine q_run rfl rfl (fun _ H => r_ix1 (i := W0.length - 1) rfl rfl (by omega) (by omega) Try.underlying25 sz22) ?_
            refine q_run rfl rfl (fun _ H => r_lv H 0 rfl rfl hxl ag22) ?_
            refine q_run rfl rfl (fun _ H => r_as (v := .slice _ _ _) rfl) ?_
            refine q_run rfl rfl (fun _ H => r_as (v := .int _ _) rfl) ?_
            refine q_nil ?_
            intro _ H'; clear H; have H := H'; clear H'
            refine c_norm ?_
            refine k_seq ?_
            refine k_b ?_
            refine k_seq ?_
            refine k_rg ?_
            refine s_run rfl rfl (r_mv (v := .slice _ _ _) rfl) ?_
            refine s_run rfl rfl (r_ix1 (i := 0) rfl rfl (by omega) (by omega) Try.underlying25 sz22) ?_
            refine s_run rfl rfl (r_lv H 0 rfl rfl hx0 ag22) ?_
            refine s_run rfl rfl (r_neqF rfl rfl (by omega)) ?_
            refine s_run rfl rfl (r_as (v := .bool _) rfl) ?_
            refine k_nil ?_
            refine c_norm ?_
            refine k_f rfl ?_
            refine k_seq ?_
            refine k_rg ?_
            refine s_run rfl rfl (r_mv (v := .int _ _) rfl) ?_
            refine s_run rfl rfl (r_mv (v := .slice _ _ _) rfl) ?_
            refine s_call rfl (cWords _ _ _ (W0.take (W0.length - 1)) _ (((by simpa using H.reads 0 rfl 0 (W0.length - 1) : Reads (Value.int .u64) _ b 0 (W0.take (W0.length - 1)))).sees) hq2 (hWU.take _) (by omega)) (ca82 rfl) ?_
            rintro e W1 ⟨rfl, H'⟩
            refine ⟨_, rfl, ?_⟩
            have H := H.same H'; clear H'
            refine s_run rfl rfl (r_cv rfl (by kernel_rfl) Try.underlying22 (wU (by omega))) ?_
            refine s_run rfl rfl (r_neqF rfl rfl (by omega)) ?_
            refine s_run rfl rfl (r_as (v := .bool _) rfl) ?_
            refine k_nil ?_
            refine c_norm ?_
            refine k_f rfl ?_
            refine k_seq ?_
            refine k_rg ?_
            refine s_run rfl rfl (r_mv (v := .slice _ _ _) rfl) ?_
            refine s_run rfl rfl (r_ix1 (i := 1) rfl rfl (by omega) (by omega) Try.underlying25 sz22) ?_
            refine s_run rfl rfl (r_lv H 0 rfl rfl hx1 ag22) ?_
            refine s_run rfl rfl (r_gtrF rfl rfl (by omega)) ?_
            refine s_run rfl rfl (r_mv (v := .bool _) rfl) ?_
            refine s_run rfl (g_on 47 (by kernel_rfl) rfl) (r_mv (v := .slice _ _ _) rfl) ?_
            refine s_run rfl (g_on 47 (by kernel_rfl) rfl) (r_ix1 (i := 1) rfl rfl (by omega) (by omega) Try.underlying25 sz22) ?_
            refine s_run rfl (g_on 47 (by kernel_rfl) rfl) (r_lv H 0 rfl rfl hx1 ag22) ?_
            refine s_run rfl (g_on 47 (by kernel_rfl) rfl) (r_rem rfl rfl (by omega)) ?_
            refine s_run rfl (g_on 47 (by kernel_rfl) rfl) (r_neqF rfl rfl (by omega)) ?_
            refine s_run rfl rfl (r_pkF (v := .bool _) rfl rfl) ?_
            refine s_run rfl rfl (r_as (v := .bool _) rfl) ?_
            refine k_nil ?_
            refine c_norm ?_
            refine k_f rfl ?_
            refine k_skip ?_
            refine b_norm ?_
            refine c_norm ?_
            refine k_seq ?_
            refine k_trF mixed ?_; have H' := H.drew; clear H; have H := H'; clear H'
            refine t_take 0 rfl (by kernel_rfl) (by kernel_rfl) (by kernel_rfl) rfl (fun _ _ _ _ h => h) rfl (fun _ hS => r_mv (v := .slice _ _ _) rfl) trivial ?_
            refine t_take 1 rfl (by kernel_rfl) (by kernel_rfl) (by kernel_rfl) rfl (fun _ _ _ _ h => h) rfl (fun _ hS => r_slo' (i := 2) (o2 := o2) (l2 := W0.length - 1 - 2) (c2 := cb - 2) rfl rfl rfl (by omega) ho2 (by omega) rfl Try.underlying25 sz22) trivial ?_
            refine t_take 2 rfl (by kernel_rfl) (by kernel_rfl) (by kernel_rfl) rfl (fun _ _ _ _ h => h) rfl (fun _ hS => r_mv (v := .slice _ _ _) rfl) trivial ?_
            refine t_take 3 rfl (by kernel_rfl) (by kernel_rfl) (by kernel_rfl) rfl (fun _ _ _ _ h => h) rfl (fun _ hS => r_ix1 (i := 1) rfl rfl (by omega) (by omega) Try.underlying25 sz22) trivial ?_
            refine t_up1 4 (by kernel_rfl) ?_
            refine up_mk rfl ?_
            refine s_run rfl rfl (r_lv H 0 rfl rfl hx1 ag22) ?_
            refine k_nil ?_
            refine t_on trivial ?_
            refine t_take 5 rfl (by kernel_rfl) (by kernel_rfl) (by kernel_rfl) rfl (fun _ _ _ _ h => h) rfl (fun _ hS => r_cv rfl (by kernel_rfl) Try.underlying3 (wI (by omega))) trivial ?_
            refine t_up1 6 (by kernel_rfl) ?_
            refine up_mk rfl ?_
            refine s_call rfl (hRd _ (hr2 _ ((by simpa using H.reads 0 rfl 0 (W0.length - 1) : Reads (Value.int .u64) _ b 0 (W0.take (W0.length - 1)))))) (ca83 rfl) ?_
            rintro e W1 ⟨A', c', rfl, H'⟩
            refine ⟨_, rfl, ?_⟩
            have H := H.more (A := [_]) H'; clear H'; simp only [List.cons_append, List.nil_append] at H
            refine k_nil ?_
            refine t_on trivial ?_
            refine t_take 7 rfl (by kernel_rfl) (by kernel_rfl) (by kernel_rfl) rfl (fun _ _ _ _ h => h) rfl (fun _ hS => r_mv (v := .tuple _) rfl) trivial ?_
            refine t_take 8 rfl (by kernel_rfl) (by kernel_rfl) (by kernel_rfl) rfl (fun _ _ _ _ h => h) rfl (fun _ hS => r_ext (v := .slice _ _ _) rfl rfl) trivial ?_
            refine t_take 9 rfl (by kernel_rfl) (by kernel_rfl) (by kernel_rfl) rfl (fun _ _ _ _ h => h) rfl (fun _ hS => r_ext (v := .int _ _) rfl rfl) trivial ?_
            refine t_take 10 rfl (by kernel_rfl) (by kernel_rfl) (by kernel_rfl) rfl (fun _ _ _ _ h => h) rfl (fun _ hS => r_as (v := .slice _ _ _) rfl) trivial ?_
            refine t_take 11 rfl (by kernel_rfl) (by kernel_rfl) (by kernel_rfl) rfl (fun _ _ _ _ h => h) rfl (fun _ hS => r_as (v := .int _ _) rfl) trivial ?_
            refine t_done (by kernel_rfl) ?_
            refine c_norm ?_
            refine k_seq ?_
            refine k_seq ?_
            refine k_rg ?_
            refine s_run rfl rfl (r_mv (v := .int _ _) rfl) ?_
            refine s_run rfl rfl (r_neqT rfl rfl (by omega)) ?_
            refine k_nil ?_
            refine c_norm ?_
            refine k_t rfl ?_
            refine k_seq ?_
            refine k_rg ?_
            refine s_run rfl rfl (r_mv (v := .int _ _) rfl) ?_
            refine s_run rfl rfl (r_as (v := .pointer _) rfl) ?_
            refine s_run rfl rfl (r_as (v := .int _ _) rfl) ?_
            refine k_nil ?_
            refine c_norm ?_
            refine k_ret ?_
            refine c_ret ?_
            refine fin2r (v := .pointer _) (v2 := .int _ _) rfl rfl rfl ?_
            exact .inl ⟨c4, rfl, H.only⟩
      · rw [if_pos (by simpa using c1)] at hld
        subst hld
        refine k_q mixed (by kernel_rfl) H ?_
        refine q_run rfl rfl (fun _ H => r_mv (v := .slice _ _ _) rfl) ?_
        refine q_run rfl rfl (fun _ H => r_mv (v := .slice _ _ _) rfl) ?_
        refine q_run rfl rfl (fun _ H => r_len rfl Try.underlying25) ?_
        refine q_run rfl rfl (fun _ H => r_sub rfl rfl (wI (by omega))) ?_
        refine q_run rfl rfl (fun _ H => r_shi (j := W0.length - 1) rfl rfl (by omega) (by omega) Try.underlying25 sz22) ?_
        refine q_run rfl rfl (fun _ H => r_mv (v := .slice _ _ _) rfl) ?_
        refine q_run rfl rfl (fun _ H => r_mv (v := .slice _ _ _) rfl) ?_
        refine q_run rfl rfl (fun _ H => r_len rfl Try.underlying25) ?_
        refine q_run rfl rfl (fun _ H => r_sub rfl rfl (wI (by omega))) ?_
        refine q_run rfl rfl (fun _ H => r_ix1 (i := W0.length - 1) rfl rfl (by omega) (by omega) Try.underlying25 sz22) ?_
        refine q_run rfl rfl (fun _ H => r_lv H 0 rfl rfl hxl ag22) ?_
        refine q_run rfl rfl (fun _ H => r_as (v := .slice _ _ _) rfl) ?_
        refine q_run rfl rfl (fun _ H => r_as (v := .int _ _) rfl) ?_
        refine q_nil ?_
        intro _ H'; clear H; have H := H'; clear H'
        refine c_norm ?_
        refine k_seq ?_
        refine k_b ?_
        refine k_seq ?_
        refine k_rg ?_
        refine s_run rfl rfl (r_mv (v := .slice _ _ _) rfl) ?_
        refine s_run rfl rfl (r_ix1 (i := 0) rfl rfl (by omega) (by omega) Try.underlying25 sz22) ?_
        refine s_run rfl rfl (r_lv H 0 rfl rfl hx0 ag22) ?_
        refine s_run rfl rfl (r_neqF rfl rfl (by omega)) ?_
        refine s_run rfl rfl (r_as (v := .bool _) rfl) ?_
        refine k_nil ?_
        refine c_norm ?_
        refine k_f rfl ?_
        refine k_seq ?_
        refine k_rg ?_
        refine s_run rfl rfl (r_mv (v := .int _ _) rfl) ?_
        refine s_run rfl rfl (r_mv (v := .slice _ _ _) rfl) ?_
        refine s_call rfl (cWords _ _ _ (W0.take (W0.length - 1)) _ (((by simpa using H.reads 0 rfl 0 (W0.length - 1) : Reads (Value.int .u64) _ b 0 (W0.take (W0.length - 1)))).sees) hq2 (hWU.take _) (by omega)) (ca82 rfl) ?_
        rintro e W1 ⟨rfl, H'⟩
        refine ⟨_, rfl, ?_⟩
        have H := H.same H'; clear H'
        refine s_run rfl rfl (r_cv rfl (by kernel_rfl) Try.underlying22 (wU (by omega))) ?_
        refine s_run rfl rfl (r_neqT rfl rfl (by omega)) ?_
        refine s_run rfl rfl (r_as (v := .bool _) rfl) ?_
        refine k_nil ?_
        refine c_norm ?_
        refine k_t rfl ?_
        refine k_seq ?_
        refine k_rg ?_
        refine s_run rfl rfl (r_as (v := .pointer _) rfl) ?_
        refine s_run rfl rfl (r_as (v := .int _ _) rfl) ?_
        refine k_nil ?_
        refine c_norm ?_
        refine k_ret ?_
        refine b_ret ?_
        refine c_ret ?_
        refine fin2r (v := .pointer _) (v2 := .int _ _) rfl rfl rfl ?_
        exact .inl ⟨by decide, rfl, H.only⟩
    · rw [if_pos (by simpa using c0)] at hld
      subst hld
      refine k_q mixed (by kernel_rfl) H ?_
      refine q_run rfl rfl (fun _ H => r_mv (v := .slice _ _ _) rfl) ?_
      refine q_run rfl rfl (fun _ H => r_mv (v := .slice _ _ _) rfl) ?_
      refine q_run rfl rfl (fun _ H => r_len rfl Try.underlying25) ?_
      refine q_run rfl rfl (fun _ H => r_sub rfl rfl (wI (by omega))) ?_
      refine q_run rfl rfl (fun _ H => r_shi (j := W0.length - 1) rfl rfl (by omega) (by omega) Try.underlying25 sz22) ?_
      refine q_run rfl rfl (fun _ H => r_mv (v := .slice _ _ _) rfl) ?_
      refine q_run rfl rfl (fun _ H => r_mv (v := .slice _ _ _) rfl) ?_
      refine q_run rfl rfl (fun _ H => r_len rfl Try.underlying25) ?_
      refine q_run rfl rfl (fun _ H => r_sub rfl rfl (wI (by omega))) ?_
      refine q_run rfl rfl (fun _ H => r_ix1 (i := W0.length - 1) rfl rfl (by omega) (by omega) Try.underlying25 sz22) ?_
      refine q_run rfl rfl (fun _ H => r_lv H 0 rfl rfl hxl ag22) ?_
      refine q_run rfl rfl (fun _ H => r_as (v := .slice _ _ _) rfl) ?_
      refine q_run rfl rfl (fun _ H => r_as (v := .int _ _) rfl) ?_
      refine q_nil ?_
      intro _ H'; clear H; have H := H'; clear H'
      refine c_norm ?_
      refine k_seq ?_
      refine k_b ?_
      refine k_seq ?_
      refine k_rg ?_
      refine s_run rfl rfl (r_mv (v := .slice _ _ _) rfl) ?_
      refine s_run rfl rfl (r_ix1 (i := 0) rfl rfl (by omega) (by omega) Try.underlying25 sz22) ?_
      refine s_run rfl rfl (r_lv H 0 rfl rfl hx0 ag22) ?_
      refine s_run rfl rfl (r_neqT rfl rfl (by omega)) ?_
      refine s_run rfl rfl (r_as (v := .bool _) rfl) ?_
      refine k_nil ?_
      refine c_norm ?_
      refine k_t rfl ?_
      refine k_seq ?_
      refine k_rg ?_
      refine s_run rfl rfl (r_as (v := .pointer _) rfl) ?_
      refine s_run rfl rfl (r_as (v := .int _ _) rfl) ?_
      refine k_nil ?_
      refine c_norm ?_
      refine k_ret ?_
      refine b_ret ?_
      refine c_ret ?_
      refine fin2r (v := .pointer _) (v2 := .int _ _) rfl rfl rfl ?_
      exact .inl ⟨by decide, rfl, H.only⟩
end Go.Proofs.Ytmekhdclnhhhbaa
end

section
namespace Go.Proofs.Ytmekhdclnhhhbaa
open Go.RowKit
set_option linter.unusedSimpArgs false
set_option linter.unusedVariables false
theorem drop_two {α : Type} (l : List α) (k : Nat) (h : k + 2 ≤ l.length) : ∃ a b, l[k]? = some a ∧ l[k + 1]? = some b ∧ l.drop k = a :: b :: l.drop (k + 2) := by
  refine ⟨l[k], l[k + 1], List.getElem?_eq_getElem (by omega), List.getElem?_eq_getElem (by omega), ?_⟩
  rw [List.drop_eq_getElem_cons (by omega), List.drop_eq_getElem_cons (by omega)]
theorem iRLoad (A : Option Addr) (n c : Nat) (xs : List Int) (w : World) (hz : Sees (Value.int .u8) w [] A xs) (hl : xs.length = n) (hU : By.IsBytes xs) (hn : n ≤ 1000000) :
    Calls Try.prog 46 [.slice A n c].toArray w (RdPost (Im.load xs) w) := by
  have H := Heap.nil w
  by_cases hbad : xs.length < 24 ∨ xs.length % 8 ≠ 0
  · have e : Im.load xs = ([], 31) := by unfold Im.load; rw [if_pos hbad]
    rw [e]
    by_cases h8 : xs.length < 24
    · refine k_in (N := 158) Try.func46 rfl rfl rfl ?_
      refine k_seq ?_
      refine k_rg ?_
      refine s_run rfl rfl (r_as (v := .slice _ _ _) rfl) ?_
      refine s_run rfl rfl (r_as (v := .int _ _) rfl) ?_
      refine k_nil ?_
      refine c_norm ?_
      refine k_seq ?_
      refine k_seq ?_
      refine k_rg ?_
      refine s_run rfl rfl (r_mv (v := .slice _ _ _) rfl) ?_
      refine s_run rfl rfl (r_len rfl Try.underlying49) ?_
      refine s_run rfl rfl (r_lssT rfl rfl (by omega)) ?_
      refine s_run rfl rfl (r_mv (v := .bool _) rfl) ?_
      refine s_off rfl (g_off 16 (by kernel_rfl) rfl rfl) ?_
      refine s_off rfl (g_off 16 (by kernel_rfl) rfl rfl) ?_
      refine s_off rfl (g_off 16 (by kernel_rfl) rfl rfl) ?_
      refine s_off rfl (g_off 16 (by kernel_rfl) rfl rfl) ?_
      refine s_run rfl rfl (r_pkT (v := .bool _) rfl rfl) ?_
      refine k_nil ?_
      refine c_norm ?_
      refine k_t rfl ?_
      refine k_seq ?_
      refine k_rg ?_
      refine s_run rfl rfl (r_as (v := .slice _ _ _) rfl) ?_
      refine s_run rfl rfl (r_as (v := .int _ _) rfl) ?_
      refine k_nil ?_
      refine c_norm ?_
      refine k_ret ?_
      refine c_ret ?_
      refine fin2r (v := .slice _ _ _) (v2 := .int _ _) rfl rfl rfl ?_
      exact RdPost.err H _
    · refine k_in (N := 158) Try.func46 rfl rfl rfl ?_
      refine k_seq ?_
      refine k_rg ?_
      refine s_run rfl rfl (r_as (v := .slice _ _ _) rfl) ?_
      refine s_run rfl rfl (r_as (v := .int _ _) rfl) ?_
      refine k_nil ?_
      refine c_norm ?_
      refine k_seq ?_
      refine k_seq ?_
      refine k_rg ?_
      refine s_run rfl rfl (r_mv (v := .slice _ _ _) rfl) ?_
      refine s_run rfl rfl (r_len rfl Try.underlying49) ?_
      refine s_run rfl rfl (r_lssF rfl rfl (by omega)) ?_
      refine s_run rfl rfl (r_mv (v := .bool _) rfl) ?_
      refine s_run rfl (g_on 16 (by kernel_rfl) rfl) (r_mv (v := .slice _ _ _) rfl) ?_
      refine s_run rfl (g_on 16 (by kernel_rfl) rfl) (r_len rfl Try.underlying49) ?_
      refine s_run rfl (g_on 16 (by kernel_rfl) rfl) (r_rem rfl rfl (by omega)) ?_
      refine s_run rfl (g_on 16 (by kernel_rfl) rfl) (r_neqT rfl rfl (by omega)) ?_
      refine s_run rfl rfl (r_pkF (v := .bool _) rfl rfl) ?_
      refine k_nil ?_
      refine c_norm ?_
      refine k_t rfl ?_
      refine k_seq ?_
      refine k_rg ?_
      refine s_run rfl rfl (r_as (v := .slice _ _ _) rfl) ?_
      refine s_run rfl rfl (r_as (v := .int _ _) rfl) ?_
      refine k_nil ?_
      refine c_norm ?_
      refine k_ret ?_
      refine c_ret ?_
      refine fin2r (v := .slice _ _ _) (v2 := .int _ _) rfl rfl rfl ?_
      exact RdPost.err H _
  · obtain ⟨W0, x0, x1, xl, hW, hWl, hWU, hx0, hx1, hxl, hld⟩ := load_words xs hU hbad
    have hx1b := hWU x1 (List.mem_of_getElem? hx1)
    have hWd := fun w hz => (rcWordsOf A n c xs w hz hl hU hn).mono (fun e w' h => h.vec (by rw [hW]; omega))
    rw [hW] at hWd
    generalize hR : Im.load xs = R at *
    have hq2 : (W0.take (W0.length - 1)).length = W0.length - 1 := by rw [List.length_take]; omega
    refine k_in (N := 158) Try.func46 rfl rfl rfl ?_
    refine k_seq ?_
    refine k_rg ?_
    refine s_run rfl rfl (r_as (v := .slice _ _ _) rfl) ?_
    refine s_run rfl rfl (r_as (v := .int _ _) rfl) ?_
    refine k_nil ?_
    refine c_norm ?_
    refine k_seq ?_
    refine k_seq ?_
    refine k_rg ?_
    refine s_run rfl rfl (r_mv (v := .slice _ _ _) rfl) ?_
    refine s_run rfl rfl (r_len rfl Try.underlying49) ?_
    refine s_run rfl rfl (r_lssF rfl rfl (by omega)) ?_
    refine s_run rfl rfl (r_mv (v := .bool _) rfl) ?_
    refine s_run rfl (g_on 16 (by kernel_rfl) rfl) (r_mv (v := .slice _ _ _) rfl) ?_
    refine s_run rfl (g_on 16 (by kernel_rfl) rfl) (r_len rfl Try.underlying49) ?_
    refine s_run rfl (g_on 16 (by kernel_rfl) rfl) (r_rem rfl rfl (by omega)) ?_
    refine s_run rfl (g_on 16 (by kernel_rfl) rfl) (r_neqF rfl rfl (by omega)) ?_
    refine s_run rfl rfl (r_pkF (v := .bool _) rfl rfl) ?_
    refine k_nil ?_
    refine c_norm ?_
    refine k_f rfl ?_
    refine k_skip ?_
    refine c_norm ?_
    refine k_seq ?_
    refine k_rg ?_
    refine s_run rfl rfl (r_mv (v := .slice _ _ _) rfl) ?_
    refine s_call rfl (hWd _ (hz.later H.only (by simp))) (ca84 rfl) ?_
    rintro e W1 ⟨b, cb, rfl, hcb, hcm, H'⟩
    refine ⟨_, rfl, ?_⟩
    have H := H.more (A := [_]) H'; clear H'; simp only [List.cons_append, List.nil_append] at H
    refine s_run rfl rfl (r_as (v := .slice _ _ _) rfl) ?_
    refine k_nil ?_
    refine c_norm ?_
    refine k_seq ?_
    unfold maxLen at hcm
    have hsum := Im.sum_bd (W0.take (W0.length - 1))
    by_cases c0 : x0 = 13905993476890996
    · rw [if_neg (by simpa using c0)] at hld
      subst c0
      by_cases c1 : xl = Im.sum (W0.take (W0.length - 1))
      · rw [if_neg (by simpa using c1)] at hld
        by_cases c2 : x1 > 131072 ∨ x1 % 8 ≠ 0
        · rw [if_pos c2] at hld
          subst hld
          by_cases c3 : x1 > 131072
          · refine k_rg ?_
            refine s_run rfl rfl (r_mv (v := .slice _ _ _) rfl) ?_
            refine s_run rfl rfl (r_len rfl Try.underlying25) ?_
            refine s_run rfl rfl (r_sub rfl rfl (wI (by omega))) ?_
            refine s_run rfl rfl (r_as (v := .int _ _) rfl) ?_
            refine k_nil ?_
            refine c_norm ?_
            refine k_seq ?_
            refine k_seq ?_
            refine k_rg ?_
            refine s_run rfl rfl (r_mv (v := .slice _ _ _) rfl) ?_
            refine s_run rfl rfl (r_ix1 (i := 0) rfl rfl (by omega) (by omega) Try.underlying25 sz22) ?_
            refine s_run rfl rfl (r_lv H 0 rfl rfl hx0 ag22) ?_
            refine s_run rfl rfl (r_neqF rfl rfl (by omega)) ?_
            refine k_nil ?_
            refine c_norm ?_
            refine k_f rfl ?_
            refine k_skip ?_
            refine c_norm ?_
            refine k_seq ?_
            refine k_seq ?_
            refine k_q mixed (by kernel_rfl) H ?_
            refine q_run rfl rfl (fun _ H => r_mv (v := .slice _ _ _) rfl) ?_
            refine q_run rfl rfl (fun _ H => r_mv (v := .int _ _) rfl) ?_
            refine q_run rfl rfl (fun _ H => r_ix1 (i := W0.length - 1) rfl rfl (by omega) (by omega) Try.underlying25 sz22) ?_
            refine q_run rfl rfl (fun _ H => r_lv H 0 rfl rfl hxl ag22) ?_
            refine q_run rfl rfl (fun _ H => r_mv (v := .slice _ _ _) rfl) ?_
            refine q_run rfl rfl (fun _ H => r_mv (v := .int _ _) rfl) ?_
            refine q_run rfl rfl (fun _ H => r_shi (j := W0.length - 1) rfl rfl (by omega) (by omega) Try.underlying25 sz22) ?_
            refine q_call rfl rfl (fun _ H => rcWords _ _ _ (W0.take (W0.length - 1)) _ (((by simpa using H.reads 0 rfl 0 (W0.length - 1) : Reads (Value.int .u64) _ b 0 (W0.take (W0.length - 1)))).sees) hq2 (hWU.take _) (by omega)) (ca66 rfl) ?_
            refine q_run rfl rfl (fun _ H => r_cv rfl (by kernel_rfl) Try.underlying22 (wU (by omega))) ?_
            refine q_run rfl rfl (fun _ H => r_neqF rfl rfl (by omega)) ?_
            refine q_nil ?_
            intro _ H'; clear H; have H := H'; clear H'
            refine c_norm ?_
            refine k_f rfl ?_
            refine k_skip ?_
            refine c_norm ?_
            refine k_seq ?_
            refine k_seq ?_
            refine k_rg ?_
            refine s_run rfl rfl (r_mv (v := .slice _ _ _) rfl) ?_
            refine s_run rfl rfl (r_ix1 (i := 1) rfl rfl (by omega) (by omega) Try.underlying25 sz22) ?_
            refine s_run rfl rfl (r_lv H 0 rfl rfl hx1 ag22) ?_
            refine s_run rfl rfl (r_gtrT rfl rfl (by omega)) ?_
            refine s_run rfl rfl (r_mv (v := .bool _) rfl) ?_
            refine s_off rfl (g_off 45 (by kernel_rfl) rfl rfl) ?_
            refine s_off rfl (g_off 45 (by kernel_rfl) rfl rfl) ?_
            refine s_off rfl (g_off 45 (by kernel_rfl) rfl rfl) ?_
            refine s_off rfl (g_off 45 (by kernel_rfl) rfl rfl) ?_
            refine s_off rfl (g_off 45 (by kernel_rfl) rfl rfl) ?_
            refine s_run rfl rfl (r_pkT (v := .bool _) rfl rfl) ?_
            refine k_nil ?_
            refine c_norm ?_
            refine k_t rfl ?_
            refine k_seq ?_
            refine k_rg ?_
            refine s_run rfl rfl (r_as (v := .slice _ _ _) rfl) ?_
            refine s_run rfl rfl (r_as (v := .int _ _) rfl) ?_
            refine k_nil ?_
            refine c_norm ?_
            refine k_ret ?_
            refine c_ret ?_
            refine fin2r (v := .slice _ _ _) (v2 := .int _ _) rfl rfl rfl ?_
            exact RdPost.err H _
          · refine k_rg ?_
            refine s_run rfl rfl (r_mv (v := .slice _ _ _) rfl) ?_
            refine s_run rfl rfl (r_len rfl Try.underlying25) ?_
            refine s_run rfl rfl (r_sub rfl rfl (wI (by omega))) ?_
            refine s_run rfl rfl (r_as (v := .int _ _) rfl) ?_
            refine k_nil ?_
            refine c_norm ?_
            refine k_seq ?_
            refine k_seq ?_
            refine k_rg ?_
            refine s_run rfl rfl (r_mv (v := .slice _ _ _) rfl) ?_
            refine s_run rfl rfl (r_ix1 (i := 0) rfl rfl (by omega) (by omega) Try.underlying25 sz22) ?_
            refine s_run rfl rfl (r_lv H 0 rfl rfl hx0 ag22) ?_
            refine s_run rfl rfl (r_neqF rfl rfl (by omega)) ?_
            refine k_nil ?_
            refine c_norm ?_
            refine k_f rfl ?_
            refine k_skip ?_
            refine c_norm ?_
            refine k_seq ?_
            refine k_seq ?_
            refine k_q mixed (by kernel_rfl) H ?_
            refine q_run rfl rfl (fun _ H => r_mv (v := .slice _ _ _) rfl) ?_
            refine q_run rfl rfl (fun _ H => r_mv (v := .int _ _) rfl) ?_
            refine q_run rfl rfl (fun _ H => r_ix1 (i := W0.length - 1) rfl rfl (by omega) (by omega) Try.underlying25 sz22) ?_
            refine q_run rfl rfl (fun _ H => r_lv H 0 rfl rfl hxl ag22) ?_
            refine q_run rfl rfl (fun _ H => r_mv (v := .slice _ _ _) rfl) ?_
            refine q_run rfl rfl (fun _ H => r_mv (v := .int _ _) rfl) ?_
            refine q_run rfl rfl (fun _ H => r_shi (j := W0.length - 1) rfl rfl (by omega) (by omega) Try.underlying25 sz22) ?_
            refine q_call rfl rfl (fun _ H => rcWords _ _ _ (W0.take (W0.length - 1)) _ (((by simpa using H.reads 0 rfl 0 (W0.length - 1) : Reads (Value.int .u64) _ b 0 (W0.take (W0.length - 1)))).sees) hq2 (hWU.take _) (by omega)) (ca66 rfl) ?_
            refine q_run rfl rfl (fun _ H => r_cv rfl (by kernel_rfl) Try.underlying22 (wU (by omega))) ?_
            refine q_run rfl rfl (fun _ H => r_neqF rfl rfl (by omega)) ?_
            refine q_nil ?_
            intro _ H'; clear H; have H := H'; clear H'
            refine c_norm ?_
            refine k_f rfl ?_
            refine k_skip ?_
            refine c_norm ?_
            refine k_seq ?_
            refine k_seq ?_
            refine k_rg ?_
            refine s_run rfl rfl (r_mv (v := .slice _ _ _) rfl) ?_
            refine s_run rfl rfl (r_ix1 (i := 1) rfl rfl (by omega) (by omega) Try.underlying25 sz22) ?_
            refine s_run rfl rfl (r_lv H 0 rfl rfl hx1 ag22) ?_
            refine s_run rfl rfl (r_gtrF rfl rfl (by omega)) ?_
            refine s_run rfl rfl (r_mv (v := .bool _) rfl) ?_
            refine s_run rfl (g_on 45 (by kernel_rfl) rfl) (r_mv (v := .slice _ _ _) rfl) ?_
            refine s_run rfl (g_on 45 (by kernel_rfl) rfl) (r_ix1 (i := 1) rfl rfl (by omega) (by omega) Try.underlying25 sz22) ?_
            refine s_run rfl (g_on 45 (by kernel_rfl) rfl) (r_lv H 0 rfl rfl hx1 ag22) ?_
            refine s_run rfl (g_on 45 (by kernel_rfl) rfl) (r_rem rfl rfl (by omega)) ?_
            refine s_run rfl (g_on 45 (by kernel_rfl) rfl) (r_neqT rfl rfl (by omega)) ?_
            refine s_run rfl rfl (r_pkF (v := .bool _) rfl rfl) ?_
            refine k_nil ?_
            refine c_norm ?_
            refine k_t rfl ?_
            refine k_seq ?_
            refine k_rg ?_
            refine s_run rfl rfl (r_as (v := .slice _ _ _) rfl) ?_
            refine s_run rfl rfl (r_as (v := .int _ _) rfl) ?_
            refine k_nil ?_
            refine c_norm ?_
            refine k_ret ?_
            refine c_ret ?_
            refine fin2r (v := .slice _ _ _) (v2 := .int _ _) rfl rfl rfl ?_
            exact RdPost.err H _
        · rw [if_neg c2] at hld
          obtain ⟨N, rfl⟩ := Int.eq_ofNat_of_zero_le hx1b.1
          rw [Int.toNat_natCast] at hld
          refine k_rg ?_
          refine s_run rfl rfl (r_mv (v := .slice _ _ _) rfl) ?_
          refine s_run rfl rfl (r_len rfl Try.underlying25) ?_
          refine s_run rfl rfl (r_sub rfl rfl (wI (by omega))) ?_
          refine s_run rfl rfl (r_as (v := .int _ _) rfl) ?_
          refine k_nil ?_
          refine c_norm ?_
          refine k_seq ?_
          refine k_seq ?_
          refine k_rg ?_
          refine s_run rfl rfl (r_mv (v := .slice _ _ _) rfl) ?_
          refine s_run rfl rfl (r_ix1 (i := 0) rfl rfl (by omega) (by omega) Try.underlying25 sz22) ?_
          refine s_run rfl rfl (r_lv H 0 rfl rfl hx0 ag22) ?_
          refine s_run rfl rfl (r_neqF rfl rfl (by omega)) ?_
          refine k_nil ?_
          refine c_norm ?_
          refine k_f rfl ?_
          refine k_skip ?_
          refine c_norm ?_
          refine k_seq ?_
          refine k_seq ?_
          refine k_q mixed (by kernel_rfl) H ?_
          refine q_run rfl rfl (fun _ H => r_mv (v := .slice _ _ _) rfl) ?_
          refine q_run rfl rfl (fun _ H => r_mv (v := .int _ _) rfl) ?_
          refine q_run rfl rfl (fun _ H => r_ix1 (i := W0.length - 1) rfl rfl (by omega) (by omega) Try.underlying25 sz22) ?_
          refine q_run rfl rfl (fun _ H => r_lv H 0 rfl rfl hxl ag22) ?_
          refine q_run rfl rfl (fun _ H => r_mv (v := .slice _ _ _) rfl) ?_
          refine q_run rfl rfl (fun _ H => r_mv (v := .int _ _) rfl) ?_
          refine q_run rfl rfl (fun _ H => r_shi (j := W0.length - 1) rfl rfl (by omega) (by omega) Try.underlying25 sz22) ?_
          refine q_call rfl rfl (fun _ H => rcWords _ _ _ (W0.take (W0.length - 1)) _ (((by simpa using H.reads 0 rfl 0 (W0.length - 1) : Reads (Value.int .u64) _ b 0 (W0.take (W0.length - 1)))).sees) hq2 (hWU.take _) (by omega)) (ca66 rfl) ?_
          refine q_run rfl rfl (fun _ H => r_cv rfl (by kernel_rfl) Try.underlying22 (wU (by omega))) ?_
          refine q_run rfl rfl (fun _ H => r_neqF rfl rfl (by omega)) ?_
          refine q_nil ?_
          intro _ H'; clear H; have H := H'; clear H'
          refine c_norm ?_
          refine k_f rfl ?_
          refine k_skip ?_
          refine c_norm ?_
          refine k_seq ?_
          refine k_seq ?_
          refine k_rg ?_
          refine s_run rfl rfl (r_mv (v := .slice _ _ _) rfl) ?_
          refine s_run rfl rfl (r_ix1 (i := 1) rfl rfl (by omega) (by omega) Try.underlying25 sz22) ?_
          refine s_run rfl rfl (r_lv H 0 rfl rfl hx1 ag22) ?_
          refine s_run rfl rfl (r_gtrF rfl rfl (by omega)) ?_
          refine s_run rfl rfl (r_mv (v := .bool _) rfl) ?_
          refine s_run rfl (g_on 45 (by kernel_rfl) rfl) (r_mv (v := .slice _ _ _) rfl) ?_
          refine s_run rfl (g_on 45 (by kernel_rfl) rfl) (r_ix1 (i := 1) rfl rfl (by omega) (by omega) Try.underlying25 sz22) ?_
          refine s_run rfl (g_on 45 (by kernel_rfl) rfl) (r_lv H 0 rfl rfl hx1 ag22) ?_
          refine s_run rfl (g_on 45 (by kernel_rfl) rfl) (r_rem rfl rfl (by omega)) ?_
          refine s_run rfl (g_on 45 (by kernel_rfl) rfl) (r_neqF rfl rfl (by omega)) ?_
          refine s_run rfl rfl (r_pkF (v := .bool _) rfl rfl) ?_
          refine k_nil ?_
          refine c_norm ?_
          refine k_f rfl ?_
          refine k_skip ?_
          refine c_norm ?_
          refine k_seq ?_
          refine k_rg ?_
          refine s_run rfl rfl (r_as (v := .slice _ _ _) rfl) ?_
          refine k_nil ?_
          refine c_norm ?_
          refine k_seq ?_
          refine k_rg ?_
          refine s_run rfl rfl (r_as (v := .int _ _) rfl) ?_
          refine s_run rfl rfl (r_as (v := .bool _) rfl) ?_
          refine k_nil ?_
          refine c_norm ?_
          refine k_seq ?_
          refine k_b ?_
          have H2 := own0 H 22
          clear H
          have H := H2
          clear H2
          refine k_loop (fun z f W => ∃ (k : Nat) (out : List Int) (A2 : Option Addr) (c2 : Nat), N < out.length + z ∧ out.length ≤ N ∧ 2 ≤ k ∧ k ≤ W0.length - 1 ∧ Im.read z ((W0.take (W0.length - 1)).drop k) N out = R ∧ f 4 = .slice (some ⟨b, 0, none⟩) W0.length cb ∧ f 5 = .int .i64 ((W0.length : Int) - 1) ∧ f 6 = .slice A2 out.length c2 ∧ f 7 = .int .i64 k ∧ f 8 = .bool (decide (out.length = 0)) ∧ Heap w [] [ownN 1 (.slice A2 out.length c2) out.length (out.map (Value.int .u64)) 22, vec (Value.int .u64) b W0 22] W) (N + 1) ⟨2, [], none, 0, by simp, by simp, by omega, by omega, hld.symm, rfl, rfl, rfl, rfl, rfl, H⟩ ?_
          clear H hld hR
          rintro z f W ⟨k, out, A2, c2, hz, hon, hk2, hkq, hR, f4, f5, f6, f7, f8, H⟩
          obtain ⟨fu, rfl⟩ : ∃ fu, z = fu + 1 := ⟨z - 1, by omega⟩
          have hdl : ((W0.take (W0.length - 1)).drop k).length = W0.length - 1 - k := by rw [List.length_drop, hq2]
          by_cases hlt : out.length < N
          · by_cases h2 : W0.length - 1 < k + 2
            · rw [read_short fu _ N out (by omega) (by omega)] at hR
              subst hR
              obtain ⟨f, rfl⟩ := live5 f4 f5 f6 f7 f8
              clear f4 f5 f6 f7 f8
              refine k_seq ?_
              refine k_seq ?_
              refine k_rg ?_
              refine s_run rfl rfl (r_mv (v := .slice _ _ _) rfl) ?_
              refine s_run rfl rfl (r_len rfl Try.underlying25) ?_
              refine s_run rfl rfl (r_mv (v := .slice _ _ _) rfl) ?_
              refine s_run rfl rfl (r_ix1 (i := 1) rfl rfl (by omega) (by omega) Try.underlying25 sz22) ?_
              refine s_run rfl rfl (r_lv H 1 rfl rfl hx1 ag22) ?_
              refine s_run rfl rfl (r_cv rfl (by kernel_rfl) Try.underlying3 (wI (by omega))) ?_
              refine s_run rfl rfl (r_lssT rfl rfl (by omega)) ?_
              refine k_nil ?_
              refine c_norm ?_
              refine k_t rfl ?_
              refine k_skip ?_
              refine c_norm ?_
              refine k_b ?_
              refine k_seq ?_
              refine k_seq ?_
              refine k_rg ?_
              refine s_run rfl rfl (r_mv (v := .int _ _) rfl) ?_
              refine s_run rfl rfl (r_add rfl rfl (wI (by omega))) ?_
              refine s_run rfl rfl (r_mv (v := .int _ _) rfl) ?_
              refine s_run rfl rfl (r_gtrT rfl rfl (by omega)) ?_
              refine k_nil ?_
              refine c_norm ?_
              refine k_t rfl ?_
              refine k_seq ?_
              refine k_rg ?_
              refine s_run rfl rfl (r_as (v := .slice _ _ _) rfl) ?_
              refine s_run rfl rfl (r_as (v := .int _ _) rfl) ?_
              refine k_nil ?_
              refine c_norm ?_
              refine k_ret ?_
              refine c_ret ?_
              refine b_ret ?_
              refine c_ret ?_
              refine b_ret ?_
              refine c_ret ?_
              refine fin2r (v := .slice _ _ _) (v2 := .int _ _) rfl rfl rfl ?_
              exact RdPost.err H _
            · obtain ⟨a, b', ha, hb, hdrop⟩ := drop_two (W0.take (W0.length - 1)) k (by omega)
              have haW : W0[k]? = some a := by rw [List.getElem?_take, if_pos (by omega)] at ha; exact ha
              have hbW : W0[k + 1]? = some b' := by rw [List.getElem?_take, if_pos (by omega)] at hb; exact hb
              have hab := hWU a (List.mem_of_getElem? haW)
              have hbb := hWU b' (List.mem_of_getElem? hbW)
              obtain ⟨zz, rfl⟩ := Int.eq_ofNat_of_zero_le hab.1
              obtain ⟨mm, rfl⟩ := Int.eq_ofNat_of_zero_le hbb.1
              rw [hdrop] at hR
              have htl : ((W0.take (W0.length - 1)).drop (k + 2)).length = W0.length - 1 - (k + 2) := by rw [List.length_drop, hq2]
              have htg : ∀ j x, ((W0.take (W0.length - 1)).drop (k + 2))[j]? = some x → W0[k + 2 + j]? = some x := by
                intro j x hx
                rw [List.getElem?_drop, List.getElem?_take] at hx
                split at hx
                · exact hx
                · cases hx
              have hdd : ∀ j, ((W0.take (W0.length - 1)).drop (k + 2)).drop j = (W0.take (W0.length - 1)).drop (k + 2 + j) := fun j => by rw [List.drop_drop]
              generalize (W0.take (W0.length - 1)).drop (k + 2) = t at *
              rw [read_cons fu zz mm t N out (by omega)] at hR
              obtain ⟨f, rfl⟩ := live5 f4 f5 f6 f7 f8
              clear f4 f5 f6 f7 f8
              refine k_seq ?_
              refine k_seq ?_
              refine k_rg ?_
              refine s_run rfl rfl (r_mv (v := .slice _ _ _) rfl) ?_
              refine s_run rfl rfl (r_len rfl Try.underlying25) ?_
              refine s_run rfl rfl (r_mv (v := .slice _ _ _) rfl) ?_
              refine s_run rfl rfl (r_ix1 (i := 1) rfl rfl (by omega) (by omega) Try.underlying25 sz22) ?_
              refine s_run rfl rfl (r_lv H 1 rfl rfl hx1 ag22) ?_
              refine s_run rfl rfl (r_cv rfl (by kernel_rfl) Try.underlying3 (wI (by omega))) ?_
              refine s_run rfl rfl (r_lssT rfl rfl (by omega)) ?_
              refine k_nil ?_
              refine c_norm ?_
              refine k_t rfl ?_
              refine k_skip ?_
              refine c_norm ?_
              refine k_b ?_
              refine k_seq ?_
              refine k_seq ?_
              refine k_rg ?_
              refine s_run rfl rfl (r_mv (v := .int _ _) rfl) ?_
              refine s_run rfl rfl (r_add rfl rfl (wI (by omega))) ?_
              refine s_run rfl rfl (r_mv (v := .int _ _) rfl) ?_
              refine s_run rfl rfl (r_gtrF rfl rfl (by omega)) ?_
              refine k_nil ?_
              refine c_norm ?_
              refine k_f rfl ?_
              refine k_skip ?_
              refine c_norm ?_
              refine k_seq ?_
              refine k_rg ?_
              refine s_run rfl rfl (r_mv (v := .slice _ _ _) rfl) ?_
              refine s_run rfl rfl (r_ix1 (i := 1) rfl rfl (by omega) (by omega) Try.underlying25 sz22) ?_
              refine s_run rfl rfl (r_lv H 1 rfl rfl hx1 ag22) ?_
              refine s_run rfl rfl (r_mv (v := .slice _ _ _) rfl) ?_
              refine s_run rfl rfl (r_len rfl Try.underlying25) ?_
              refine s_run rfl rfl (r_cv rfl (by kernel_rfl) Try.underlying22 (wU (by omega))) ?_
              refine s_run rfl rfl (r_sub rfl rfl (wU (by omega))) ?_
              refine s_run rfl rfl (r_as (v := .int _ _) rfl) ?_
              refine k_nil ?_
              refine c_norm ?_
              refine k_seq ?_
              refine k_q mixed (by kernel_rfl) H ?_
              refine q_run rfl rfl (fun _ H => r_mv (v := .slice _ _ _) rfl) ?_
              refine q_run rfl rfl (fun _ H => r_mv (v := .int _ _) rfl) ?_
              refine q_run rfl rfl (fun _ H => r_ix1 (i := k) rfl rfl (by omega) (by omega) Try.underlying25 sz22) ?_
              refine q_run rfl rfl (fun _ H => r_lv H 1 rfl rfl haW ag22) ?_
              refine q_run rfl rfl (fun _ H => r_mv (v := .slice _ _ _) rfl) ?_
              refine q_run rfl rfl (fun _ H => r_mv (v := .int _ _) rfl) ?_
              refine q_run rfl rfl (fun _ H => r_add rfl rfl (wI (by omega))) ?_
              refine q_run rfl rfl (fun _ H => r_ix1 (i := k + 1) rfl rfl (by omega) (by omega) Try.underlying25 sz22) ?_
              refine q_run rfl rfl (fun _ H => r_lv H 1 rfl rfl hbW ag22) ?_
              refine q_run rfl rfl (fun _ H => r_as (v := .int _ _) rfl) ?_
              refine q_run rfl rfl (fun _ H => r_as (v := .int _ _) rfl) ?_
              refine q_nil ?_
              intro _ H'; clear H; have H := H'; clear H'
              refine c_norm ?_
              refine k_seq ?_
              refine k_rg ?_
              refine s_run rfl rfl (r_mv (v := .int _ _) rfl) ?_
              refine s_run rfl rfl (r_add rfl rfl (wI (by omega))) ?_
              refine s_run rfl rfl (r_as (v := .int _ _) rfl) ?_
              refine k_nil ?_
              refine c_norm ?_
              refine k_seq ?_
              refine k_seq ?_
              refine k_cut (fun f W => f 4 = .slice (some ⟨b, 0, none⟩) W0.length cb ∧ f 5 = .int .i64 ((W0.length : Int) - 1) ∧ f 6 = .slice A2 out.length c2 ∧ f 7 = .int .i64 ((k : Int) + 2) ∧ f 8 = .bool (decide (out.length = 0)) ∧ f 10 = .int .u64 zz ∧ f 11 = .int .u64 mm ∧ f 118 = .bool (Im.bad zz mm (N - out.length) out.length) ∧ Heap w [] [ownN 1 (.slice A2 out.length c2) out.length (out.map (Value.int .u64)) 22, vec (Value.int .u64) b W0 22] W) ?_ ?_
              · by_cases k1 : (zz : Int) > N - out.length
                · have hbd : Im.bad zz mm (N - out.length) out.length = true := decide_eq_true (by omega)
                  rw [hbd]
                  refine k_rg ?_
                  refine s_run rfl rfl (r_mv (v := .int _ _) rfl) ?_
                  refine s_run rfl rfl (r_mv (v := .int _ _) rfl) ?_
                  refine s_run rfl rfl (r_gtrT rfl rfl (by omega)) ?_
                  refine s_run rfl rfl (r_mv (v := .bool _) rfl) ?_
                  refine s_off rfl (g_off 84 (by kernel_rfl) rfl rfl) ?_
                  refine s_off rfl (g_off 84 (by kernel_rfl) rfl rfl) ?_
                  refine s_off rfl (g_off 84 (by kernel_rfl) rfl rfl) ?_
                  refine s_run rfl rfl (r_pkT (v := .bool _) rfl rfl) ?_
                  refine s_run rfl rfl (r_mv (v := .bool _) rfl) ?_
                  refine s_off rfl (g_off 89 (by kernel_rfl) rfl rfl) ?_
                  refine s_off rfl (g_off 89 (by kernel_rfl) rfl rfl) ?_
                  refine s_off rfl (g_off 89 (by kernel_rfl) rfl rfl) ?_
                  refine s_off rfl (g_off 89 (by kernel_rfl) rfl rfl) ?_
                  refine s_off rfl (g_off 89 (by kernel_rfl) rfl rfl) ?_
                  refine s_run rfl rfl (r_pkT (v := .bool _) rfl rfl) ?_
                  refine s_run rfl rfl (r_mv (v := .bool _) rfl) ?_
                  refine s_off rfl (g_off 96 (by kernel_rfl) rfl rfl) ?_
                  refine s_off rfl (g_off 96 (by kernel_rfl) rfl rfl) ?_
                  refine s_off rfl (g_off 96 (by kernel_rfl) rfl rfl) ?_
                  refine s_off rfl (g_off 96 (by kernel_rfl) rfl rfl) ?_
                  refine s_run rfl rfl (r_pkT (v := .bool _) rfl rfl) ?_
                  refine s_run rfl rfl (r_mv (v := .bool _) rfl) ?_
                  refine s_off rfl (g_off 102 (by kernel_rfl) rfl rfl) ?_
                  refine s_off rfl (g_off 102 (by kernel_rfl) rfl rfl) ?_
                  refine s_off rfl (g_off 102 (by kernel_rfl) rfl rfl) ?_
                  refine s_off rfl (g_un 105 (by kernel_rfl) rfl) ?_
                  refine s_off rfl (g_un 105 (by kernel_rfl) rfl) ?_
                  refine s_off rfl (g_off 102 (by kernel_rfl) rfl rfl) ?_
                  refine s_run rfl rfl (r_pkT (v := .bool _) rfl rfl) ?_
                  refine s_run rfl rfl (r_mv (v := .bool _) rfl) ?_
                  refine s_off rfl (g_off 110 (by kernel_rfl) rfl rfl) ?_
                  refine s_off rfl (g_off 110 (by kernel_rfl) rfl rfl) ?_
                  refine s_off rfl (g_off 110 (by kernel_rfl) rfl rfl) ?_
                  refine s_off rfl (g_un 113 (by kernel_rfl) rfl) ?_
                  refine s_off rfl (g_un 113 (by kernel_rfl) rfl) ?_
                  refine s_off rfl (g_un 113 (by kernel_rfl) rfl) ?_
                  refine s_off rfl (g_off 110 (by kernel_rfl) rfl rfl) ?_
                  refine s_run rfl rfl (r_pkT (v := .bool _) rfl rfl) ?_
                  refine k_nil ?_
                  refine k_met ?_
                  exact ⟨rfl, rfl, rfl, rfl, rfl, rfl, rfl, rfl, H⟩
                by_cases k2 : (mm : Int) > N - out.length
                · have hbd : Im.bad zz mm (N - out.length) out.length = true := decide_eq_true (by omega)
                  rw [hbd]
                  refine k_rg ?_
                  refine s_run rfl rfl (r_mv (v := .int _ _) rfl) ?_
                  refine s_run rfl rfl (r_mv (v := .int _ _) rfl) ?_
                  refine s_run rfl rfl (r_gtrF rfl rfl (by omega)) ?_
                  refine s_run rfl rfl (r_mv (v := .bool _) rfl) ?_
                  refine s_run rfl (g_on 84 (by kernel_rfl) rfl) (r_mv (v := .int _ _) rfl) ?_
                  refine s_run rfl (g_on 84 (by kernel_rfl) rfl) (r_mv (v := .int _ _) rfl) ?_
                  refine s_run rfl (g_on 84 (by kernel_rfl) rfl) (r_gtrT rfl rfl (by omega)) ?_
                  refine s_run rfl rfl (r_pkF (v := .bool _) rfl rfl) ?_
                  refine s_run rfl rfl (r_mv (v := .bool _) rfl) ?_
                  refine s_off rfl (g_off 89 (by kernel_rfl) rfl rfl) ?_
                  refine s_off rfl (g_off 89 (by kernel_rfl) rfl rfl) ?_
                  refine s_off rfl (g_off 89 (by kernel_rfl) rfl rfl) ?_
                  refine s_off rfl (g_off 89 (by kernel_rfl) rfl rfl) ?_
                  refine s_off rfl (g_off 89 (by kernel_rfl) rfl rfl) ?_
                  refine s_run rfl rfl (r_pkT (v := .bool _) rfl rfl) ?_
                  refine s_run rfl rfl (r_mv (v := .bool _) rfl) ?_
                  refine s_off rfl (g_off 96 (by kernel_rfl) rfl rfl) ?_
                  refine s_off rfl (g_off 96 (by kernel_rfl) rfl rfl) ?_
                  refine s_off rfl (g_off 96 (by kernel_rfl) rfl rfl) ?_
                  refine s_off rfl (g_off 96 (by kernel_rfl) rfl rfl) ?_
                  refine s_run rfl rfl (r_pkT (v := .bool _) rfl rfl) ?_
                  refine s_run rfl rfl (r_mv (v := .bool _) rfl) ?_
                  refine s_off rfl (g_off 102 (by kernel_rfl) rfl rfl) ?_
                  refine s_off rfl (g_off 102 (by kernel_rfl) rfl rfl) ?_
                  refine s_off rfl (g_off 102 (by kernel_rfl) rfl rfl) ?_
                  refine s_off rfl (g_un 105 (by kernel_rfl) rfl) ?_
                  refine s_off rfl (g_un 105 (by kernel_rfl) rfl) ?_
                  refine s_off rfl (g_off 102 (by kernel_rfl) rfl rfl) ?_
                  refine s_run rfl rfl (r_pkT (v := .bool _) rfl rfl) ?_
                  refine s_run rfl rfl (r_mv (v := .bool _) rfl) ?_
                  refine s_off rfl (g_off 110 (by kernel_rfl) rfl rfl) ?_
                  refine s_off rfl (g_off 110 (by kernel_rfl) rfl rfl) ?_
                  refine s_off rfl (g_off 110 (by kernel_rfl) rfl rfl) ?_
                  refine s_off rfl (g_un 113 (by kernel_rfl) rfl) ?_
                  refine s_off rfl (g_un 113 (by kernel_rfl) rfl) ?_
                  refine s_off rfl (g_un 113 (by kernel_rfl) rfl) ?_
                  refine s_off rfl (g_off 110 (by kernel_rfl) rfl rfl) ?_
                  refine s_run rfl rfl (r_pkT (v := .bool _) rfl rfl) ?_
                  refine k_nil ?_
                  refine k_met ?_
                  exact ⟨rfl, rfl, rfl, rfl, rfl, rfl, rfl, rfl, H⟩
                by_cases k3 : (zz : Int) + mm > N - out.length
                · have hbd : Im.bad zz mm (N - out.length) out.length = true := decide_eq_true (by omega)
                  rw [hbd]
                  refine k_rg ?_
                  refine s_run rfl rfl (r_mv (v := .int _ _) rfl) ?_
                  refine s_run rfl rfl (r_mv (v := .int _ _) rfl) ?_
                  refine s_run rfl rfl (r_gtrF rfl rfl (by omega)) ?_
                  refine s_run rfl rfl (r_mv (v := .bool _) rfl) ?_
                  refine s_run rfl (g_on 84 (by kernel_rfl) rfl) (r_mv (v := .int _ _) rfl) ?_
                  refine s_run rfl (g_on 84 (by kernel_rfl) rfl) (r_mv (v := .int _ _) rfl) ?_
                  refine s_run rfl (g_on 84 (by kernel_rfl) rfl) (r_gtrF rfl rfl (by omega)) ?_
                  refine s_run rfl rfl (r_pkF (v := .bool _) rfl rfl) ?_
                  refine s_run rfl rfl (r_mv (v := .bool _) rfl) ?_
                  refine s_run rfl (g_on 89 (by kernel_rfl) rfl) (r_mv (v := .int _ _) rfl) ?_
                  refine s_run rfl (g_on 89 (by kernel_rfl) rfl) (r_mv (v := .int _ _) rfl) ?_
                  refine s_run rfl (g_on 89 (by kernel_rfl) rfl) (r_add rfl rfl (wU (by omega))) ?_
                  refine s_run rfl (g_on 89 (by kernel_rfl) rfl) (r_mv (v := .int _ _) rfl) ?_
                  refine s_run rfl (g_on 89 (by kernel_rfl) rfl) (r_gtrT rfl rfl (by omega)) ?_
                  refine s_run rfl rfl (r_pkF (v := .bool _) rfl rfl) ?_
                  refine s_run rfl rfl (r_mv (v := .bool _) rfl) ?_
                  refine s_off rfl (g_off 96 (by kernel_rfl) rfl rfl) ?_
                  refine s_off rfl (g_off 96 (by kernel_rfl) rfl rfl) ?_
                  refine s_off rfl (g_off 96 (by kernel_rfl) rfl rfl) ?_
                  refine s_off rfl (g_off 96 (by kernel_rfl) rfl rfl) ?_
                  refine s_run rfl rfl (r_pkT (v := .bool _) rfl rfl) ?_
                  refine s_run rfl rfl (r_mv (v := .bool _) rfl) ?_
                  refine s_off rfl (g_off 102 (by kernel_rfl) rfl rfl) ?_
                  refine s_off rfl (g_off 102 (by kernel_rfl) rfl rfl) ?_
                  refine s_off rfl (g_off 102 (by kernel_rfl) rfl rfl) ?_
                  refine s_off rfl (g_un 105 (by kernel_rfl) rfl) ?_
                  refine s_off rfl (g_un 105 (by kernel_rfl) rfl) ?_
                  refine s_off rfl (g_off 102 (by kernel_rfl) rfl rfl) ?_
                  refine s_run rfl rfl (r_pkT (v := .bool _) rfl rfl) ?_
                  refine s_run rfl rfl (r_mv (v := .bool _) rfl) ?_
                  refine s_off rfl (g_off 110 (by kernel_rfl) rfl rfl) ?_
                  refine s_off rfl (g_off 110 (by kernel_rfl) rfl rfl) ?_
                  refine s_off rfl (g_off 110 (by kernel_rfl) rfl rfl) ?_
                  refine s_off rfl (g_un 113 (by kernel_rfl) rfl) ?_
                  refine s_off rfl (g_un 113 (by kernel_rfl) rfl) ?_
                  refine s_off rfl (g_un 113 (by kernel_rfl) rfl) ?_
                  refine s_off rfl (g_off 110 (by kernel_rfl) rfl rfl) ?_
                  refine s_run rfl rfl (r_pkT (v := .bool _) rfl rfl) ?_
                  refine k_nil ?_
                  refine k_met ?_
                  exact ⟨rfl, rfl, rfl, rfl, rfl, rfl, rfl, rfl, H⟩
                by_cases k4 : (zz : Int) + mm = 0
                · have hbd : Im.bad zz mm (N - out.length) out.length = true := decide_eq_true (by omega)
                  rw [hbd]
                  refine k_rg ?_
                  refine s_run rfl rfl (r_mv (v := .int _ _) rfl) ?_
                  refine s_run rfl rfl (r_mv (v := .int _ _) rfl) ?_
                  refine s_run rfl rfl (r_gtrF rfl rfl (by omega)) ?_
                  refine s_run rfl rfl (r_mv (v := .bool _) rfl) ?_
                  refine s_run rfl (g_on 84 (by kernel_rfl) rfl) (r_mv (v := .int _ _) rfl) ?_
                  refine s_run rfl (g_on 84 (by kernel_rfl) rfl) (r_mv (v := .int _ _) rfl) ?_
                  refine s_run rfl (g_on 84 (by kernel_rfl) rfl) (r_gtrF rfl rfl (by omega)) ?_
                  refine s_run rfl rfl (r_pkF (v := .bool _) rfl rfl) ?_
                  refine s_run rfl rfl (r_mv (v := .bool _) rfl) ?_
                  refine s_run rfl (g_on 89 (by kernel_rfl) rfl) (r_mv (v := .int _ _) rfl) ?_
                  refine s_run rfl (g_on 89 (by kernel_rfl) rfl) (r_mv (v := .int _ _) rfl) ?_
                  refine s_run rfl (g_on 89 (by kernel_rfl) rfl) (r_add rfl rfl (wU (by omega))) ?_
                  refine s_run rfl (g_on 89 (by kernel_rfl) rfl) (r_mv (v := .int _ _) rfl) ?_
                  refine s_run rfl (g_on 89 (by kernel_rfl) rfl) (r_gtrF rfl rfl (by omega)) ?_
                  refine s_run rfl rfl (r_pkF (v := .bool _) rfl rfl) ?_
                  refine s_run rfl rfl (r_mv (v := .bool _) rfl) ?_
                  refine s_run rfl (g_on 96 (by kernel_rfl) rfl) (r_mv (v := .int _ _) rfl) ?_
                  refine s_run rfl (g_on 96 (by kernel_rfl) rfl) (r_mv (v := .int _ _) rfl) ?_
                  refine s_run rfl (g_on 96 (by kernel_rfl) rfl) (r_add rfl rfl (wU (by omega))) ?_
                  refine s_run rfl (g_on 96 (by kernel_rfl) rfl) (r_eqlT rfl rfl (by omega)) ?_
                  refine s_run rfl rfl (r_pkF (v := .bool _) rfl rfl) ?_
                  refine s_run rfl rfl (r_mv (v := .bool _) rfl) ?_
                  refine s_off rfl (g_off 102 (by kernel_rfl) rfl rfl) ?_
                  refine s_off rfl (g_off 102 (by kernel_rfl) rfl rfl) ?_
                  refine s_off rfl (g_off 102 (by kernel_rfl) rfl rfl) ?_
                  refine s_off rfl (g_un 105 (by kernel_rfl) rfl) ?_
                  refine s_off rfl (g_un 105 (by kernel_rfl) rfl) ?_
                  refine s_off rfl (g_off 102 (by kernel_rfl) rfl rfl) ?_
                  refine s_run rfl rfl (r_pkT (v := .bool _) rfl rfl) ?_
                  refine s_run rfl rfl (r_mv (v := .bool _) rfl) ?_
                  refine s_off rfl (g_off 110 (by kernel_rfl) rfl rfl) ?_
                  refine s_off rfl (g_off 110 (by kernel_rfl) rfl rfl) ?_
                  refine s_off rfl (g_off 110 (by kernel_rfl) rfl rfl) ?_
                  refine s_off rfl (g_un 113 (by kernel_rfl) rfl) ?_
                  refine s_off rfl (g_un 113 (by kernel_rfl) rfl) ?_
                  refine s_off rfl (g_un 113 (by kernel_rfl) rfl) ?_
                  refine s_off rfl (g_off 110 (by kernel_rfl) rfl rfl) ?_
                  refine s_run rfl rfl (r_pkT (v := .bool _) rfl rfl) ?_
                  refine k_nil ?_
                  refine k_met ?_
                  exact ⟨rfl, rfl, rfl, rfl, rfl, rfl, rfl, rfl, H⟩
                by_cases k5 : out.length = 0
                · have hd : decide (out.length = 0) = true := decide_eq_true k5
                  rw [hd]
                  by_cases k6 : mm = 0
                  · by_cases k7 : (zz : Int) < N - out.length
                    · have hbd : Im.bad zz mm (N - out.length) out.length = true := decide_eq_true (by omega)
                      rw [hbd]
                      refine k_rg ?_
                      refine s_run rfl rfl (r_mv (v := .int _ _) rfl) ?_
                      refine s_run rfl rfl (r_mv (v := .int _ _) rfl) ?_
                      refine s_run rfl rfl (r_gtrF rfl rfl (by omega)) ?_
                      refine s_run rfl rfl (r_mv (v := .bool _) rfl) ?_
                      refine s_run rfl (g_on 84 (by kernel_rfl) rfl) (r_mv (v := .int _ _) rfl) ?_
                      refine s_run rfl (g_on 84 (by kernel_rfl) rfl) (r_mv (v := .int _ _) rfl) ?_
                      refine s_run rfl (g_on 84 (by kernel_rfl) rfl) (r_gtrF rfl rfl (by omega)) ?_
                      refine s_run rfl rfl (r_pkF (v := .bool _) rfl rfl) ?_
                      refine s_run rfl rfl (r_mv (v := .bool _) rfl) ?_
                      refine s_run rfl (g_on 89 (by kernel_rfl) rfl) (r_mv (v := .int _ _) rfl) ?_
                      refine s_run rfl (g_on 89 (by kernel_rfl) rfl) (r_mv (v := .int _ _) rfl) ?_
                      refine s_run rfl (g_on 89 (by kernel_rfl) rfl) (r_add rfl rfl (wU (by omega))) ?_
                      refine s_run rfl (g_on 89 (by kernel_rfl) rfl) (r_mv (v := .int _ _) rfl) ?_
                      refine s_run rfl (g_on 89 (by kernel_rfl) rfl) (r_gtrF rfl rfl (by omega)) ?_
                      refine s_run rfl rfl (r_pkF (v := .bool _) rfl rfl) ?_
                      refine s_run rfl rfl (r_mv (v := .bool _) rfl) ?_
                      refine s_run rfl (g_on 96 (by kernel_rfl) rfl) (r_mv (v := .int _ _) rfl) ?_
                      refine s_run rfl (g_on 96 (by kernel_rfl) rfl) (r_mv (v := .int _ _) rfl) ?_
                      refine s_run rfl (g_on 96 (by kernel_rfl) rfl) (r_add rfl rfl (wU (by omega))) ?_
                      refine s_run rfl (g_on 96 (by kernel_rfl) rfl) (r_eqlF rfl rfl (by omega)) ?_
                      refine s_run rfl rfl (r_pkF (v := .bool _) rfl rfl) ?_
                      refine s_run rfl rfl (r_mv (v := .bool _) rfl) ?_
                      refine s_run rfl (g_on 102 (by kernel_rfl) rfl) (r_mv (v := .bool _) rfl) ?_
                      refine s_run rfl (g_on 102 (by kernel_rfl) rfl) (r_notT rfl) ?_
                      refine s_run rfl (g_on 102 (by kernel_rfl) rfl) (r_mv (v := .bool _) rfl) ?_
                      refine s_off rfl (g_off 105 (by kernel_rfl) rfl rfl) ?_
                      refine s_off rfl (g_off 105 (by kernel_rfl) rfl rfl) ?_
                      refine s_run rfl (g_on 102 (by kernel_rfl) rfl) (r_pkF (v := .bool _) rfl rfl) ?_
                      refine s_run rfl rfl (r_pkF (v := .bool _) rfl rfl) ?_
                      refine s_run rfl rfl (r_mv (v := .bool _) rfl) ?_
                      refine s_run rfl (g_on 110 (by kernel_rfl) rfl) (r_mv (v := .int _ _) rfl) ?_
                      refine s_run rfl (g_on 110 (by kernel_rfl) rfl) (r_eqlT rfl rfl (by omega)) ?_
                      refine s_run rfl (g_on 110 (by kernel_rfl) rfl) (r_mv (v := .bool _) rfl) ?_
                      refine s_run rfl (g_on 113 (by kernel_rfl) rfl) (r_mv (v := .int _ _) rfl) ?_
                      refine s_run rfl (g_on 113 (by kernel_rfl) rfl) (r_mv (v := .int _ _) rfl) ?_
                      refine s_run rfl (g_on 113 (by kernel_rfl) rfl) (r_lssT rfl rfl (by omega)) ?_
                      refine s_run rfl (g_on 110 (by kernel_rfl) rfl) (r_pkT (v := .bool _) rfl rfl) ?_
                      refine s_run rfl rfl (r_pkF (v := .bool _) rfl rfl) ?_
                      refine k_nil ?_
                      refine k_met ?_
                      exact ⟨rfl, rfl, rfl, rfl, rfl, rfl, rfl, rfl, H⟩
                    · have hbd : Im.bad zz mm (N - out.length) out.length = false := decide_eq_false (by omega)
                      rw [hbd]
                      refine k_rg ?_
                      refine s_run rfl rfl (r_mv (v := .int _ _) rfl) ?_
                      refine s_run rfl rfl (r_mv (v := .int _ _) rfl) ?_
                      refine s_run rfl rfl (r_gtrF rfl rfl (by omega)) ?_
                      refine s_run rfl rfl (r_mv (v := .bool _) rfl) ?_
                      refine s_run rfl (g_on 84 (by kernel_rfl) rfl) (r_mv (v := .int _ _) rfl) ?_
                      refine s_run rfl (g_on 84 (by kernel_rfl) rfl) (r_mv (v := .int _ _) rfl) ?_
                      refine s_run rfl (g_on 84 (by kernel_rfl) rfl) (r_gtrF rfl rfl (by omega)) ?_
                      refine s_run rfl rfl (r_pkF (v := .bool _) rfl rfl) ?_
                      refine s_run rfl rfl (r_mv (v := .bool _) rfl) ?_
                      refine s_run rfl (g_on 89 (by kernel_rfl) rfl) (r_mv (v := .int _ _) rfl) ?_
                      refine s_run rfl (g_on 89 (by kernel_rfl) rfl) (r_mv (v := .int _ _) rfl) ?_
                      refine s_run rfl (g_on 89 (by kernel_rfl) rfl) (r_add rfl rfl (wU (by omega))) ?_
                      refine s_run rfl (g_on 89 (by kernel_rfl) rfl) (r_mv (v := .int _ _) rfl) ?_
                      refine s_run rfl (g_on 89 (by kernel_rfl) rfl) (r_gtrF rfl rfl (by omega)) ?_
                      refine s_run rfl rfl (r_pkF (v := .bool _) rfl rfl) ?_
                      refine s_run rfl rfl (r_mv (v := .bool _) rfl) ?_
                      refine s_run rfl (g_on 96 (by kernel_rfl) rfl) (r_mv (v := .int _ _) rfl) ?_
                      refine s_run rfl (g_on 96 (by kernel_rfl) rfl) (r_mv (v := .int _ _) rfl) ?_
                      refine s_run rfl (g_on 96 (by kernel_rfl) rfl) (r_add rfl rfl (wU (by omega))) ?_
                      refine s_run rfl (g_on 96 (by kernel_rfl) rfl) (r_eqlF rfl rfl (by omega)) ?_
                      refine s_run rfl rfl (r_pkF (v := .bool _) rfl rfl) ?_
                      refine s_run rfl rfl (r_mv (v := .bool _) rfl) ?_
                      refine s_run rfl (g_on 102 (by kernel_rfl) rfl) (r_mv (v := .bool _) rfl) ?_
                      refine s_run rfl (g_on 102 (by kernel_rfl) rfl) (r_notT rfl) ?_
                      refine s_run rfl (g_on 102 (by kernel_rfl) rfl) (r_mv (v := .bool _) rfl) ?_
                      refine s_off rfl (g_off 105 (by kernel_rfl) rfl rfl) ?_
                      refine s_off rfl (g_off 105 (by kernel_rfl) rfl rfl) ?_
                      refine s_run rfl (g_on 102 (by kernel_rfl) rfl) (r_pkF (v := .bool _) rfl rfl) ?_
                      refine s_run rfl rfl (r_pkF (v := .bool _) rfl rfl) ?_
                      refine s_run rfl rfl (r_mv (v := .bool _) rfl) ?_
                      refine s_run rfl (g_on 110 (by kernel_rfl) rfl) (r_mv (v := .int _ _) rfl) ?_
                      refine s_run rfl (g_on 110 (by kernel_rfl) rfl) (r_eqlT rfl rfl (by omega)) ?_
                      refine s_run rfl (g_on 110 (by kernel_rfl) rfl) (r_mv (v := .bool _) rfl) ?_
                      refine s_run rfl (g_on 113 (by kernel_rfl) rfl) (r_mv (v := .int _ _) rfl) ?_
                      refine s_run rfl (g_on 113 (by kernel_rfl) rfl) (r_mv (v := .int _ _) rfl) ?_
                      refine s_run rfl (g_on 113 (by kernel_rfl) rfl) (r_lssF rfl rfl (by omega)) ?_
                      refine s_run rfl (g_on 110 (by kernel_rfl) rfl) (r_pkT (v := .bool _) rfl rfl) ?_
                      refine s_run rfl rfl (r_pkF (v := .bool _) rfl rfl) ?_
                      refine k_nil ?_
                      refine k_met ?_
                      exact ⟨rfl, rfl, rfl, rfl, rfl, rfl, rfl, rfl, H⟩
                  · have hbd : Im.bad zz mm (N - out.length) out.length = false := decide_eq_false (by omega)
                    rw [hbd]
                    refine k_rg ?_
                    refine s_run rfl rfl (r_mv (v := .int _ _) rfl) ?_
                    refine s_run rfl rfl (r_mv (v := .int _ _) rfl) ?_
                    refine s_run rfl rfl (r_gtrF rfl rfl (by omega)) ?_
                    refine s_run rfl rfl (r_mv (v := .bool _) rfl) ?_
                    refine s_run rfl (g_on 84 (by kernel_rfl) rfl) (r_mv (v := .int _ _) rfl) ?_
                    refine s_run rfl (g_on 84 (by kernel_rfl) rfl) (r_mv (v := .int _ _) rfl) ?_
                    refine s_run rfl (g_on 84 (by kernel_rfl) rfl) (r_gtrF rfl rfl (by omega)) ?_
                    refine s_run rfl rfl (r_pkF (v := .bool _) rfl rfl) ?_
                    refine s_run rfl rfl (r_mv (v := .bool _) rfl) ?_
                    refine s_run rfl (g_on 89 (by kernel_rfl) rfl) (r_mv (v := .int _ _) rfl) ?_
                    refine s_run rfl (g_on 89 (by kernel_rfl) rfl) (r_mv (v := .int _ _) rfl) ?_
                    refine s_run rfl (g_on 89 (by kernel_rfl) rfl) (r_add rfl rfl (wU (by omega))) ?_
                    refine s_run rfl (g_on 89 (by kernel_rfl) rfl) (r_mv (v := .int _ _) rfl) ?_
                    refine s_run rfl (g_on 89 (by kernel_rfl) rfl) (r_gtrF rfl rfl (by omega)) ?_
                    refine s_run rfl rfl (r_pkF (v := .bool _) rfl rfl) ?_
                    refine s_run rfl rfl (r_mv (v := .bool _) rfl) ?_
                    refine s_run rfl (g_on 96 (by kernel_rfl) rfl) (r_mv (v := .int _ _) rfl) ?_
                    refine s_run rfl (g_on 96 (by kernel_rfl) rfl) (r_mv (v := .int _ _) rfl) ?_
                    refine s_run rfl (g_on 96 (by kernel_rfl) rfl) (r_add rfl rfl (wU (by omega))) ?_
                    refine s_run rfl (g_on 96 (by kernel_rfl) rfl) (r_eqlF rfl rfl (by omega)) ?_
                    refine s_run rfl rfl (r_pkF (v := .bool _) rfl rfl) ?_
                    refine s_run rfl rfl (r_mv (v := .bool _) rfl) ?_
                    refine s_run rfl (g_on 102 (by kernel_rfl) rfl) (r_mv (v := .bool _) rfl) ?_
                    refine s_run rfl (g_on 102 (by kernel_rfl) rfl) (r_notT rfl) ?_
                    refine s_run rfl (g_on 102 (by kernel_rfl) rfl) (r_mv (v := .bool _) rfl) ?_
                    refine s_off rfl (g_off 105 (by kernel_rfl) rfl rfl) ?_
                    refine s_off rfl (g_off 105 (by kernel_rfl) rfl rfl) ?_
                    refine s_run rfl (g_on 102 (by kernel_rfl) rfl) (r_pkF (v := .bool _) rfl rfl) ?_
                    refine s_run rfl rfl (r_pkF (v := .bool _) rfl rfl) ?_
                    refine s_run rfl rfl (r_mv (v := .bool _) rfl) ?_
                    refine s_run rfl (g_on 110 (by kernel_rfl) rfl) (r_mv (v := .int _ _) rfl) ?_
                    refine s_run rfl (g_on 110 (by kernel_rfl) rfl) (r_eqlF rfl rfl (by omega)) ?_
                    refine s_run rfl (g_on 110 (by kernel_rfl) rfl) (r_mv (v := .bool _) rfl) ?_
                    refine s_off rfl (g_off 113 (by kernel_rfl) rfl rfl) ?_
                    refine s_off rfl (g_off 113 (by kernel_rfl) rfl rfl) ?_
                    refine s_off rfl (g_off 113 (by kernel_rfl) rfl rfl) ?_
                    refine s_run rfl (g_on 110 (by kernel_rfl) rfl) (r_pkF (v := .bool _) rfl rfl) ?_
                    refine s_run rfl rfl (r_pkF (v := .bool _) rfl rfl) ?_
                    refine k_nil ?_
                    refine k_met ?_
                    exact ⟨rfl, rfl, rfl, rfl, rfl, rfl, rfl, rfl, H⟩
                · have hd : decide (out.length = 0) = false := decide_eq_false k5
                  rw [hd]
                  by_cases k8 : zz = 0
                  · have hbd : Im.bad zz mm (N - out.length) out.length = true := decide_eq_true (by omega)
                    rw [hbd]
                    refine k_rg ?_
                    refine s_run rfl rfl (r_mv (v := .int _ _) rfl) ?_
                    refine s_run rfl rfl (r_mv (v := .int _ _) rfl) ?_
                    refine s_run rfl rfl (r_gtrF rfl rfl (by omega)) ?_
                    refine s_run rfl rfl (r_mv (v := .bool _) rfl) ?_
                    refine s_run rfl (g_on 84 (by kernel_rfl) rfl) (r_mv (v := .int _ _) rfl) ?_
                    refine s_run rfl (g_on 84 (by kernel_rfl) rfl) (r_mv (v := .int _ _) rfl) ?_
                    refine s_run rfl (g_on 84 (by kernel_rfl) rfl) (r_gtrF rfl rfl (by omega)) ?_
                    refine s_run rfl rfl (r_pkF (v := .bool _) rfl rfl) ?_
                    refine s_run rfl rfl (r_mv (v := .bool _) rfl) ?_
                    refine s_run rfl (g_on 89 (by kernel_rfl) rfl) (r_mv (v := .int _ _) rfl) ?_
                    refine s_run rfl (g_on 89 (by kernel_rfl) rfl) (r_mv (v := .int _ _) rfl) ?_
                    refine s_run rfl (g_on 89 (by kernel_rfl) rfl) (r_add rfl rfl (wU (by omega))) ?_
                    refine s_run rfl (g_on 89 (by kernel_rfl) rfl) (r_mv (v := .int _ _) rfl) ?_
                    refine s_run rfl (g_on 89 (by kernel_rfl) rfl) (r_gtrF rfl rfl (by omega)) ?_
                    refine s_run rfl rfl (r_pkF (v := .bool _) rfl rfl) ?_
                    refine s_run rfl rfl (r_mv (v := .bool _) rfl) ?_
                    refine s_run rfl (g_on 96 (by kernel_rfl) rfl) (r_mv (v := .int _ _) rfl) ?_
                    refine s_run rfl (g_on 96 (by kernel_rfl) rfl) (r_mv (v := .int _ _) rfl) ?_
                    refine s_run rfl (g_on 96 (by kernel_rfl) rfl) (r_add rfl rfl (wU (by omega))) ?_
                    refine s_run rfl (g_on 96 (by kernel_rfl) rfl) (r_eqlF rfl rfl (by omega)) ?_
                    refine s_run rfl rfl (r_pkF (v := .bool _) rfl rfl) ?_
                    refine s_run rfl rfl (r_mv (v := .bool _) rfl) ?_
                    refine s_run rfl (g_on 102 (by kernel_rfl) rfl) (r_mv (v := .bool _) rfl) ?_
                    refine s_run rfl (g_on 102 (by kernel_rfl) rfl) (r_notF rfl) ?_
                    refine s_run rfl (g_on 102 (by kernel_rfl) rfl) (r_mv (v := .bool _) rfl) ?_
                    refine s_run rfl (g_on 105 (by kernel_rfl) rfl) (r_mv (v := .int _ _) rfl) ?_
                    refine s_run rfl (g_on 105 (by kernel_rfl) rfl) (r_eqlT rfl rfl (by omega)) ?_
                    refine s_run rfl (g_on 102 (by kernel_rfl) rfl) (r_pkT (v := .bool _) rfl rfl) ?_
                    refine s_run rfl rfl (r_pkF (v := .bool _) rfl rfl) ?_
                    refine s_run rfl rfl (r_mv (v := .bool _) rfl) ?_
                    refine s_off rfl (g_off 110 (by kernel_rfl) rfl rfl) ?_
                    refine s_off rfl (g_off 110 (by kernel_rfl) rfl rfl) ?_
                    refine s_off rfl (g_off 110 (by kernel_rfl) rfl rfl) ?_
                    refine s_off rfl (g_un 113 (by kernel_rfl) rfl) ?_
                    refine s_off rfl (g_un 113 (by kernel_rfl) rfl) ?_
                    refine s_off rfl (g_un 113 (by kernel_rfl) rfl) ?_
                    refine s_off rfl (g_off 110 (by kernel_rfl) rfl rfl) ?_
                    refine s_run rfl rfl (r_pkT (v := .bool _) rfl rfl) ?_
                    refine k_nil ?_
                    refine k_met ?_
                    exact ⟨rfl, rfl, rfl, rfl, rfl, rfl, rfl, rfl, H⟩
                  by_cases k6 : mm = 0
                  · by_cases k7 : (zz : Int) < N - out.length
                    · have hbd : Im.bad zz mm (N - out.length) out.length = true := decide_eq_true (by omega)
                      rw [hbd]
                      refine k_rg ?_
                      refine s_run rfl rfl (r_mv (v := .int _ _) rfl) ?_
                      refine s_run rfl rfl (r_mv (v := .int _ _) rfl) ?_
                      refine s_run rfl rfl (r_gtrF rfl rfl (by omega)) ?_
                      refine s_run rfl rfl (r_mv (v := .bool _) rfl) ?_
                      refine s_run rfl (g_on 84 (by kernel_rfl) rfl) (r_mv (v := .int _ _) rfl) ?_
                      refine s_run rfl (g_on 84 (by kernel_rfl) rfl) (r_mv (v := .int _ _) rfl) ?_
                      refine s_run rfl (g_on 84 (by kernel_rfl) rfl) (r_gtrF rfl rfl (by omega)) ?_
                      refine s_run rfl rfl (r_pkF (v := .bool _) rfl rfl) ?_
                      refine s_run rfl rfl (r_mv (v := .bool _) rfl) ?_
                      refine s_run rfl (g_on 89 (by kernel_rfl) rfl) (r_mv (v := .int _ _) rfl) ?_
                      refine s_run rfl (g_on 89 (by kernel_rfl) rfl) (r_mv (v := .int _ _) rfl) ?_
                      refine s_run rfl (g_on 89 (by kernel_rfl) rfl) (r_add rfl rfl (wU (by omega))) ?_
                      refine s_run rfl (g_on 89 (by kernel_rfl) rfl) (r_mv (v := .int _ _) rfl) ?_
                      refine s_run rfl (g_on 89 (by kernel_rfl) rfl) (r_gtrF rfl rfl (by omega)) ?_
                      refine s_run rfl rfl (r_pkF (v := .bool _) rfl rfl) ?_
                      refine s_run rfl rfl (r_mv (v := .bool _) rfl) ?_
                      refine s_run rfl (g_on 96 (by kernel_rfl) rfl) (r_mv (v := .int _ _) rfl) ?_
                      refine s_run rfl (g_on 96 (by kernel_rfl) rfl) (r_mv (v := .int _ _) rfl) ?_
                      refine s_run rfl (g_on 96 (by kernel_rfl) rfl) (r_add rfl rfl (wU (by omega))) ?_
                      refine s_run rfl (g_on 96 (by kernel_rfl) rfl) (r_eqlF rfl rfl (by omega)) ?_
                      refine s_run rfl rfl (r_pkF (v := .bool _) rfl rfl) ?_
                      refine s_run rfl rfl (r_mv (v := .bool _) rfl) ?_
                      refine s_run rfl (g_on 102 (by kernel_rfl) rfl) (r_mv (v := .bool _) rfl) ?_
                      refine s_run rfl (g_on 102 (by kernel_rfl) rfl) (r_notF rfl) ?_
                      refine s_run rfl (g_on 102 (by kernel_rfl) rfl) (r_mv (v := .bool _) rfl) ?_
                      refine s_run rfl (g_on 105 (by kernel_rfl) rfl) (r_mv (v := .int _ _) rfl) ?_
                      refine s_run rfl (g_on 105 (by kernel_rfl) rfl) (r_eqlF rfl rfl (by omega)) ?_
                      refine s_run rfl (g_on 102 (by kernel_rfl) rfl) (r_pkT (v := .bool _) rfl rfl) ?_
                      refine s_run rfl rfl (r_pkF (v := .bool _) rfl rfl) ?_
                      refine s_run rfl rfl (r_mv (v := .bool _) rfl) ?_
                      refine s_run rfl (g_on 110 (by kernel_rfl) rfl) (r_mv (v := .int _ _) rfl) ?_
                      refine s_run rfl (g_on 110 (by kernel_rfl) rfl) (r_eqlT rfl rfl (by omega)) ?_
                      refine s_run rfl (g_on 110 (by kernel_rfl) rfl) (r_mv (v := .bool _) rfl) ?_
                      refine s_run rfl (g_on 113 (by kernel_rfl) rfl) (r_mv (v := .int _ _) rfl) ?_
                      refine s_run rfl (g_on 113 (by kernel_rfl) rfl) (r_mv (v := .int _ _) rfl) ?_
                      refine s_run rfl (g_on 113 (by kernel_rfl) rfl) (r_lssT rfl rfl (by omega)) ?_
                      refine s_run rfl (g_on 110 (by kernel_rfl) rfl) (r_pkT (v := .bool _) rfl rfl) ?_
                      refine s_run rfl rfl (r_pkF (v := .bool _) rfl rfl) ?_
                      refine k_nil ?_
                      refine k_met ?_
                      exact ⟨rfl, rfl, rfl, rfl, rfl, rfl, rfl, rfl, H⟩
                    · have hbd : Im.bad zz mm (N - out.length) out.length = false := decide_eq_false (by omega)
                      rw [hbd]
                      refine k_rg ?_
                      refine s_run rfl rfl (r_mv (v := .int _ _) rfl) ?_
                      refine s_run rfl rfl (r_mv (v := .int _ _) rfl) ?_
                      refine s_run rfl rfl (r_gtrF rfl rfl (by omega)) ?_
                      refine s_run rfl rfl (r_mv (v := .bool _) rfl) ?_
                      refine s_run rfl (g_on 84 (by kernel_rfl) rfl) (r_mv (v := .int _ _) rfl) ?_
                      refine s_run rfl (g_on 84 (by kernel_rfl) rfl) (r_mv (v := .int _ _) rfl) ?_
                      refine s_run rfl (g_on 84 (by kernel_rfl) rfl) (r_gtrF rfl rfl (by omega)) ?_
                      refine s_run rfl rfl (r_pkF (v := .bool _) rfl rfl) ?_
                      refine s_run rfl rfl (r_mv (v := .bool _) rfl) ?_
                      refine s_run rfl (g_on 89 (by kernel_rfl) rfl) (r_mv (v := .int _ _) rfl) ?_
                      refine s_run rfl (g_on 89 (by kernel_rfl) rfl) (r_mv (v := .int _ _) rfl) ?_
                      refine s_run rfl (g_on 89 (by kernel_rfl) rfl) (r_add rfl rfl (wU (by omega))) ?_
                      refine s_run rfl (g_on 89 (by kernel_rfl) rfl) (r_mv (v := .int _ _) rfl) ?_
                      refine s_run rfl (g_on 89 (by kernel_rfl) rfl) (r_gtrF rfl rfl (by omega)) ?_
                      refine s_run rfl rfl (r_pkF (v := .bool _) rfl rfl) ?_
                      refine s_run rfl rfl (r_mv (v := .bool _) rfl) ?_
                      refine s_run rfl (g_on 96 (by kernel_rfl) rfl) (r_mv (v := .int _ _) rfl) ?_
                      refine s_run rfl (g_on 96 (by kernel_rfl) rfl) (r_mv (v := .int _ _) rfl) ?_
                      refine s_run rfl (g_on 96 (by kernel_rfl) rfl) (r_add rfl rfl (wU (by omega))) ?_
                      refine s_run rfl (g_on 96 (by kernel_rfl) rfl) (r_eqlF rfl rfl (by omega)) ?_
                      refine s_run rfl rfl (r_pkF (v := .bool _) rfl rfl) ?_
                      refine s_run rfl rfl (r_mv (v := .bool _) rfl) ?_
                      refine s_run rfl (g_on 102 (by kernel_rfl) rfl) (r_mv (v := .bool _) rfl) ?_
                      refine s_run rfl (g_on 102 (by kernel_rfl) rfl) (r_notF rfl) ?_
                      refine s_run rfl (g_on 102 (by kernel_rfl) rfl) (r_mv (v := .bool _) rfl) ?_
                      refine s_run rfl (g_on 105 (by kernel_rfl) rfl) (r_mv (v := .int _ _) rfl) ?_
                      refine s_run rfl (g_on 105 (by kernel_rfl) rfl) (r_eqlF rfl rfl (by omega)) ?_
                      refine s_run rfl (g_on 102 (by kernel_rfl) rfl) (r_pkT (v := .bool _) rfl rfl) ?_
                      refine s_run rfl rfl (r_pkF (v := .bool _) rfl rfl) ?_
                      refine s_run rfl rfl (r_mv (v := .bool _) rfl) ?_
                      refine s_run rfl (g_on 110 (by kernel_rfl) rfl) (r_mv (v := .int _ _) rfl) ?_
                      refine s_run rfl (g_on 110 (by kernel_rfl) rfl) (r_eqlT rfl rfl (by omega)) ?_
                      refine s_run rfl (g_on 110 (by kernel_rfl) rfl) (r_mv (v := .bool _) rfl) ?_
                      refine s_run rfl (g_on 113 (by kernel_rfl) rfl) (r_mv (v := .int _ _) rfl) ?_
                      refine s_run rfl (g_on 113 (by kernel_rfl) rfl) (r_mv (v := .int _ _) rfl) ?_
                      refine s_run rfl (g_on 113 (by kernel_rfl) rfl) (r_lssF rfl rfl (by omega)) ?_
                      refine s_run rfl (g_on 110 (by kernel_rfl) rfl) (r_pkT (v := .bool _) rfl rfl) ?_
                      refine s_run rfl rfl (r_pkF (v := .bool _) rfl rfl) ?_
                      refine k_nil ?_
                      refine k_met ?_
                      exact ⟨rfl, rfl, rfl, rfl, rfl, rfl, rfl, rfl, H⟩
                  · have hbd : Im.bad zz mm (N - out.length) out.length = false := decide_eq_false (by omega)
                    rw [hbd]
                    refine k_rg ?_
                    refine s_run rfl rfl (r_mv (v := .int _ _) rfl) ?_
                    refine s_run rfl rfl (r_mv (v := .int _ _) rfl) ?_
                    refine s_run rfl rfl (r_gtrF rfl rfl (by omega)) ?_
                    refine s_run rfl rfl (r_mv (v := .bool _) rfl) ?_
                    refine s_run rfl (g_on 84 (by kernel_rfl) rfl) (r_mv (v := .int _ _) rfl) ?_
                    refine s_run rfl (g_on 84 (by kernel_rfl) rfl) (r_mv (v := .int _ _) rfl) ?_
                    refine s_run rfl (g_on 84 (by kernel_rfl) rfl) (r_gtrF rfl rfl (by omega)) ?_
                    refine s_run rfl rfl (r_pkF (v := .bool _) rfl rfl) ?_
                    refine s_run rfl rfl (r_mv (v := .bool _) rfl) ?_
                    refine s_run rfl (g_on 89 (by kernel_rfl) rfl) (r_mv (v := .int _ _) rfl) ?_
                    refine s_run rfl (g_on 89 (by kernel_rfl) rfl) (r_mv (v := .int _ _) rfl) ?_
                    refine s_run rfl (g_on 89 (by kernel_rfl) rfl) (r_add rfl rfl (wU (by omega))) ?_
                    refine s_run rfl (g_on 89 (by kernel_rfl) rfl) (r_mv (v := .int _ _) rfl) ?_
                    refine s_run rfl (g_on 89 (by kernel_rfl) rfl) (r_gtrF rfl rfl (by omega)) ?_
                    refine s_run rfl rfl (r_pkF (v := .bool _) rfl rfl) ?_
                    refine s_run rfl rfl (r_mv (v := .bool _) rfl) ?_
                    refine s_run rfl (g_on 96 (by kernel_rfl) rfl) (r_mv (v := .int _ _) rfl) ?_
                    refine s_run rfl (g_on 96 (by kernel_rfl) rfl) (r_mv (v := .int _ _) rfl) ?_
                    refine s_run rfl (g_on 96 (by kernel_rfl) rfl) (r_add rfl rfl (wU (by omega))) ?_
                    refine s_run rfl (g_on 96 (by kernel_rfl) rfl) (r_eqlF rfl rfl (by omega)) ?_
                    refine s_run rfl rfl (r_pkF (v := .bool _) rfl rfl) ?_
                    refine s_run rfl rfl (r_mv (v := .bool _) rfl) ?_
                    refine s_run rfl (g_on 102 (by kernel_rfl) rfl) (r_mv (v := .bool _) rfl) ?_
                    refine s_run rfl (g_on 102 (by kernel_rfl) rfl) (r_notF rfl) ?_
                    refine s_run rfl (g_on 102 (by kernel_rfl) rfl) (r_mv (v := .bool _) rfl) ?_
                    refine s_run rfl (g_on 105 (by kernel_rfl) rfl) (r_mv (v := .int _ _) rfl) ?_
                    refine s_run rfl (g_on 105 (by kernel_rfl) rfl) (r_eqlF rfl rfl (by omega)) ?_
                    refine s_run rfl (g_on 102 (by kernel_rfl) rfl) (r_pkT (v := .bool _) rfl rfl) ?_
                    refine s_run rfl rfl (r_pkF (v := .bool _) rfl rfl) ?_
                    refine s_run rfl rfl (r_mv (v := .bool _) rfl) ?_
                    refine s_run rfl (g_on 110 (by kernel_rfl) rfl) (r_mv (v := .int _ _) rfl) ?_
                    refine s_run rfl (g_on 110 (by kernel_rfl) rfl) (r_eqlF rfl rfl (by omega)) ?_
                    refine s_run rfl (g_on 110 (by kernel_rfl) rfl) (r_mv (v := .bool _) rfl) ?_
                    refine s_off rfl (g_off 113 (by kernel_rfl) rfl rfl) ?_
                    refine s_off rfl (g_off 113 (by kernel_rfl) rfl rfl) ?_
                    refine s_off rfl (g_off 113 (by kernel_rfl) rfl rfl) ?_
                    refine s_run rfl (g_on 110 (by kernel_rfl) rfl) (r_pkF (v := .bool _) rfl rfl) ?_
                    refine s_run rfl rfl (r_pkF (v := .bool _) rfl rfl) ?_
                    refine k_nil ?_
                    refine k_met ?_
                    exact ⟨rfl, rfl, rfl, rfl, rfl, rfl, rfl, rfl, H⟩
              · clear H
                rintro f W ⟨f4, f5, f6, f7, f8, f10, f11, f118, H⟩
                by_cases hbd : Im.bad zz mm (N - out.length) out.length = true
                · rw [if_pos hbd] at hR
                  rw [hbd] at f118
                  obtain ⟨f, rfl⟩ := lv8 f4 f5 f6 f7 f8 f10 f11 f118
                  clear f4 f5 f6 f7 f8 f10 f11 f118
                  subst hR
                  refine c_norm ?_
                  refine k_t rfl ?_
                  refine k_seq ?_
                  refine k_rg ?_
                  refine s_run rfl rfl (r_as (v := .slice _ _ _) rfl) ?_
                  refine s_run rfl rfl (r_as (v := .int _ _) rfl) ?_
                  refine k_nil ?_
                  refine c_norm ?_
                  refine k_ret ?_
                  refine c_ret ?_
                  refine b_ret ?_
                  refine c_ret ?_
                  refine b_ret ?_
                  refine c_ret ?_
                  refine fin2r (v := .slice _ _ _) (v2 := .int _ _) rfl rfl rfl ?_
                  exact RdPost.err H _
                · rw [if_neg hbd] at hR
                  have hbd2 : Im.bad zz mm (N - out.length) out.length = false := by simpa using hbd
                  rw [hbd2] at f118
                  obtain ⟨f, rfl⟩ := lv8 f4 f5 f6 f7 f8 f10 f11 f118
                  clear f4 f5 f6 f7 f8 f10 f11 f118
                  have hbd3 := of_decide_eq_false hbd2
                  clear hbd hbd2
                  by_cases hm : (mm : Int) > (t.length : Int)
                  · rw [if_pos hm] at hR
                    subst hR
                    refine c_norm ?_
                    refine k_f rfl ?_
                    refine k_skip ?_
                    refine c_norm ?_
                    refine k_seq ?_
                    refine k_rg ?_
                    refine s_run rfl rfl (r_as (v := .bool _) rfl) ?_
                    refine k_nil ?_
                    refine c_norm ?_
                    refine k_seq ?_
                    refine k_seq ?_
                    refine k_rg ?_
                    refine s_run rfl rfl (r_mv (v := .int _ _) rfl) ?_
                    refine s_run rfl rfl (r_mv (v := .int _ _) rfl) ?_
                    refine s_run rfl rfl (r_mv (v := .int _ _) rfl) ?_
                    refine s_run rfl rfl (r_sub rfl rfl (wI (by omega))) ?_
                    refine s_run rfl rfl (r_cv rfl (by kernel_rfl) Try.underlying22 (wU (by omega))) ?_
                    refine s_run rfl rfl (r_gtrT rfl rfl (by omega)) ?_
                    refine k_nil ?_
                    refine c_norm ?_
                    refine k_t rfl ?_
                    refine k_seq ?_
                    refine k_rg ?_
                    refine s_run rfl rfl (r_as (v := .slice _ _ _) rfl) ?_
                    refine s_run rfl rfl (r_as (v := .int _ _) rfl) ?_
                    refine k_nil ?_
                    refine c_norm ?_
                    refine k_ret ?_
                    refine c_ret ?_
                    refine b_ret ?_
                    refine c_ret ?_
                    refine b_ret ?_
                    refine c_ret ?_
                    refine fin2r (v := .slice _ _ _) (v2 := .int _ _) rfl rfl rfl ?_
                    exact RdPost.err H _
                  · rw [if_neg hm] at hR
                    refine c_norm ?_
                    refine k_f rfl ?_
                    refine k_skip ?_
                    refine c_norm ?_
                    refine k_seq ?_
                    refine k_rg ?_
                    refine s_run rfl rfl (r_as (v := .bool _) rfl) ?_
                    refine k_nil ?_
                    refine c_norm ?_
                    refine k_seq ?_
                    refine k_seq ?_
                    refine k_rg ?_
                    refine s_run rfl rfl (r_mv (v := .int _ _) rfl) ?_
                    refine s_run rfl rfl (r_mv (v := .int _ _) rfl) ?_
                    refine s_run rfl rfl (r_mv (v := .int _ _) rfl) ?_
                    refine s_run rfl rfl (r_sub rfl rfl (wI (by omega))) ?_
                    refine s_run rfl rfl (r_cv rfl (by kernel_rfl) Try.underlying22 (wU (by omega))) ?_
                    refine s_run rfl rfl (r_gtrF rfl rfl (by omega)) ?_
                    refine k_nil ?_
                    refine c_norm ?_
                    refine k_f rfl ?_
                    refine k_skip ?_
                    refine c_norm ?_
                    refine k_seq ?_
                    refine k_rg ?_
                    refine s_run rfl rfl (r_mv (v := .slice _ _ _) rfl) ?_
                    refine s_run rfl rfl (r_mv (v := .int _ _) rfl) ?_
                    refine s_apz (enc := (Value.int .u64)) (z := 0) (l := zz) H 0 rfl rfl rfl rfl (by omega) (by omega) Try.underlying25 Try.underlying22 inf22 rfl ?_
                    intro _ _ _ H'; simp only [List.set_cons_zero, List.set_cons_succ, List.take_succ_cons, List.take_zero, List.drop_succ_cons, List.drop_zero, List.cons_append, List.nil_append, List.append_nil, List.length_cons, List.length_nil, Nat.reduceAdd] at H'; clear H; have H := H'; clear H'
                    refine s_run rfl rfl (r_as (v := .slice _ _ _) rfl) ?_
                    refine k_nil ?_
                    refine c_norm ?_
                    refine k_seq ?_
                    refine k_seq ?_
                    refine k_rg ?_
                    refine s_run rfl rfl (r_as (v := .int _ _) rfl) ?_
                    refine k_nil ?_
                    refine c_norm ?_
                    refine k_b ?_
                    refine k_loop (fun z f W => ∃ (j : Nat) (A3 : Option Addr) (c3 : Nat), j ≤ mm ∧ z = mm - j ∧ Im.noZero (t.take j) = true ∧ f 4 = .slice (some ⟨b, 0, none⟩) W0.length cb ∧ f 5 = .int .i64 ((W0.length : Int) - 1) ∧ f 6 = .slice A3 (out.length + zz + j) c3 ∧ f 7 = .int .i64 ((k : Int) + 2) ∧ f 8 = .bool false ∧ f 11 = .int .u64 mm ∧ f 12 = .int .i64 j ∧ Heap w [] [ownN 1 (.slice A3 (out.length + zz + j) c3) (out.length + zz + j) ((out ++ List.replicate zz 0 ++ t.take j).map (Value.int .u64)) 22, vec (Value.int .u64) b W0 22] W) mm ⟨0, _, _, by omega, rfl, rfl, rfl, rfl, rfl, rfl, rfl, rfl, rfl, by simpa using H⟩ ?_
                    clear H
                    rintro z f W ⟨j, A3, c3, hj, rfl, hnz, f4, f5, f6, f7, f8, f11, f12, H⟩
                    obtain ⟨f, rfl⟩ := lv7 f4 f5 f6 f7 f8 f11 f12
                    clear f4 f5 f6 f7 f8 f11 f12
                    by_cases hjm : j < mm
                    · obtain ⟨x, hx⟩ : ∃ x, t[j]? = some x := ⟨_, List.getElem?_eq_getElem (by omega)⟩
                      have hcx := htg j x hx
                      by_cases hx0 : x = 0
                      · subst hx0
                        rw [if_neg (noZero_no t j mm hx hjm)] at hR
                        subst hR
                        refine k_seq ?_
                        refine k_seq ?_
                        refine k_rg ?_
                        refine s_run rfl rfl (r_mv (v := .int _ _) rfl) ?_
                        refine s_run rfl rfl (r_mv (v := .int _ _) rfl) ?_
                        refine s_run rfl rfl (r_cv rfl (by kernel_rfl) Try.underlying3 (wI (by omega))) ?_
                        refine s_run rfl rfl (r_lssT rfl rfl (by omega)) ?_
                        refine k_nil ?_
                        refine c_norm ?_
                        refine k_t rfl ?_
                        refine k_skip ?_
                        refine c_norm ?_
                        refine k_seq ?_
                        refine k_b ?_
                        refine k_seq ?_
                        refine k_seq ?_
                        refine k_rg ?_
                        refine s_run rfl rfl (r_mv (v := .slice _ _ _) rfl) ?_
                        refine s_run rfl rfl (r_mv (v := .int _ _) rfl) ?_
                        refine s_run rfl rfl (r_mv (v := .int _ _) rfl) ?_
                        refine s_run rfl rfl (r_add rfl rfl (wI (by omega))) ?_
                        refine s_run rfl rfl (r_ix1 (i := k + 2 + j) rfl rfl (by omega) (by omega) Try.underlying25 sz22) ?_
                        refine s_run rfl rfl (r_lv H 1 rfl rfl hcx ag22) ?_
                        refine s_run rfl rfl (r_eqlT rfl rfl (by omega)) ?_
                        refine k_nil ?_
                        refine c_norm ?_
                        refine k_t rfl ?_
                        refine k_seq ?_
                        refine k_rg ?_
                        refine s_run rfl rfl (r_as (v := .slice _ _ _) rfl) ?_
                        refine s_run rfl rfl (r_as (v := .int _ _) rfl) ?_
                        refine k_nil ?_
                        refine c_norm ?_
                        refine k_ret ?_
                        refine c_ret ?_
                        refine b_ret ?_
                        refine c_ret ?_
                        refine c_ret ?_
                        refine b_ret ?_
                        refine c_ret ?_
                        refine b_ret ?_
                        refine c_ret ?_
                        refine b_ret ?_
                        refine c_ret ?_
                        refine fin2r (v := .slice _ _ _) (v2 := .int _ _) rfl rfl rfl ?_
                        exact RdPost.err H _
                      · refine k_seq ?_
                        refine k_seq ?_
                        refine k_rg ?_
                        refine s_run rfl rfl (r_mv (v := .int _ _) rfl) ?_
                        refine s_run rfl rfl (r_mv (v := .int _ _) rfl) ?_
                        refine s_run rfl rfl (r_cv rfl (by kernel_rfl) Try.underlying3 (wI (by omega))) ?_
                        refine s_run rfl rfl (r_lssT rfl rfl (by omega)) ?_
                        refine k_nil ?_
                        refine c_norm ?_
                        refine k_t rfl ?_
                        refine k_skip ?_
                        refine c_norm ?_
                        refine k_seq ?_
                        refine k_b ?_
                        refine k_seq ?_
                        refine k_seq ?_
                        refine k_rg ?_
                        refine s_run rfl rfl (r_mv (v := .slice _ _ _) rfl) ?_
                        refine s_run rfl rfl (r_mv (v := .int _ _) rfl) ?_
                        refine s_run rfl rfl (r_mv (v := .int _ _) rfl) ?_
                        refine s_run rfl rfl (r_add rfl rfl (wI (by omega))) ?_
                        refine s_run rfl rfl (r_ix1 (i := k + 2 + j) rfl rfl (by omega) (by omega) Try.underlying25 sz22) ?_
                        refine s_run rfl rfl (r_lv H 1 rfl rfl hcx ag22) ?_
                        refine s_run rfl rfl (r_eqlF rfl rfl (by omega)) ?_
                        refine k_nil ?_
                        refine c_norm ?_
                        refine k_f rfl ?_
                        refine k_skip ?_
                        refine c_norm ?_
                        refine k_rg ?_
                        refine s_run rfl rfl (r_mv (v := .slice _ _ _) rfl) ?_
                        refine s_run rfl rfl (r_mv (v := .slice _ _ _) rfl) ?_
                        refine s_run rfl rfl (r_mv (v := .int _ _) rfl) ?_
                        refine s_run rfl rfl (r_mv (v := .int _ _) rfl) ?_
                        refine s_run rfl rfl (r_add rfl rfl (wI (by omega))) ?_
                        refine s_run rfl rfl (r_ix1 (i := k + 2 + j) rfl rfl (by omega) (by omega) Try.underlying25 sz22) ?_
                        refine s_run rfl rfl (r_lv H 1 rfl rfl hcx ag22) ?_
                        refine s_app1 (enc := (Value.int .u64)) H 0 rfl rfl rfl rfl rfl rfl rfl (by omega) Try.underlying25 inf22 rfl ?_
                        intro _ An cn _ H'; simp only [List.set_cons_zero, List.set_cons_succ, List.take_succ_cons, List.take_zero, List.drop_succ_cons, List.drop_zero, List.cons_append, List.nil_append, List.append_nil, List.length_cons, List.length_nil, Nat.reduceAdd] at H'; clear H; have H := H'; clear H'
                        refine s_run rfl rfl (r_as (v := .slice _ _ _) rfl) ?_
                        refine k_nil ?_
                        refine b_norm ?_
                        refine c_norm ?_
                        refine k_rg ?_
                        refine s_run rfl rfl (r_mv (v := .int _ _) rfl) ?_
                        refine s_run rfl rfl (r_add rfl rfl (wI (by omega))) ?_
                        refine s_run rfl rfl (r_as (v := .int _ _) rfl) ?_
                        refine k_nil ?_
                        refine c_round ?_
                        rw [List.append_assoc, take_snoc hx] at H
                        refine ⟨_, _, ?_, rfl, j + 1, _, _, by omega, rfl, noZero_snoc t j x hx hnz hx0, rfl, rfl, rfl, rfl, rfl, rfl, rfl, H⟩
                        omega
                    · obtain rfl : j = mm := by omega
                      rw [if_pos hnz, hdd] at hR
                      have hol : (out ++ List.replicate zz 0 ++ t.take j).length = out.length + zz + j := by
                        simp only [List.length_append, List.length_replicate, List.length_take]; omega
                      refine k_seq ?_
                      refine k_seq ?_
                      refine k_rg ?_
                      refine s_run rfl rfl (r_mv (v := .int _ _) rfl) ?_
                      refine s_run rfl rfl (r_mv (v := .int _ _) rfl) ?_
                      refine s_run rfl rfl (r_cv rfl (by kernel_rfl) Try.underlying3 (wI (by omega))) ?_
                      refine s_run rfl rfl (r_lssF rfl rfl (by omega)) ?_
                      refine k_nil ?_
                      refine c_norm ?_
                      refine k_f rfl ?_
                      refine k_exit ?_
                      refine c_exit ?_
                      refine c_exit ?_
                      refine b_hit ?_
                      refine c_norm ?_
                      refine k_rg ?_
                      refine s_run rfl rfl (r_mv (v := .int _ _) rfl) ?_
                      refine s_run rfl rfl (r_mv (v := .int _ _) rfl) ?_
                      refine s_run rfl rfl (r_cv rfl (by kernel_rfl) Try.underlying3 (wI (by omega))) ?_
                      refine s_run rfl rfl (r_add rfl rfl (wI (by omega))) ?_
                      refine s_run rfl rfl (r_as (v := .int _ _) rfl) ?_
                      refine k_nil ?_
                      refine b_norm ?_
                      refine c_round ?_
                      rw [← hol] at H
                      have hd : decide ((out ++ List.replicate zz 0 ++ t.take j).length = 0) = false := decide_eq_false (by omega)
                      refine ⟨fu, _, ?_, rfl, k + 2 + j, out ++ List.replicate zz 0 ++ t.take j, A3, c3, by omega, by omega, by omega, by omega, hR, rfl, rfl, ?_, rfl, ?_, H⟩
                      · omega
                      · rw [hol]; rfl
                      · rw [hd]; rfl
          · rw [read_end fu _ N out (by omega)] at hR
            obtain ⟨f, rfl⟩ := live5 f4 f5 f6 f7 f8
            clear f4 f5 f6 f7 f8
            by_cases hw : ((W0.take (W0.length - 1)).drop k).length > 0
            · rw [if_pos hw] at hR
              subst hR
              refine k_seq ?_
              refine k_seq ?_
              refine k_rg ?_
              refine s_run rfl rfl (r_mv (v := .slice _ _ _) rfl) ?_
              refine s_run rfl rfl (r_len rfl Try.underlying25) ?_
              refine s_run rfl rfl (r_mv (v := .slice _ _ _) rfl) ?_
              refine s_run rfl rfl (r_ix1 (i := 1) rfl rfl (by omega) (by omega) Try.underlying25 sz22) ?_
              refine s_run rfl rfl (r_lv H 1 rfl rfl hx1 ag22) ?_
              refine s_run rfl rfl (r_cv rfl (by kernel_rfl) Try.underlying3 (wI (by omega))) ?_
              refine s_run rfl rfl (r_lssF rfl rfl (by omega)) ?_
              refine k_nil ?_
              refine c_norm ?_
              refine k_f rfl ?_
              refine k_exit ?_
              refine c_exit ?_
              refine c_exit ?_
              refine b_hit ?_
              refine c_norm ?_
              refine k_seq ?_
              refine k_seq ?_
              refine k_rg ?_
              refine s_run rfl rfl (r_mv (v := .int _ _) rfl) ?_
              refine s_run rfl rfl (r_mv (v := .int _ _) rfl) ?_
              refine s_run rfl rfl (r_lssT rfl rfl (by omega)) ?_
              refine k_nil ?_
              refine c_norm ?_
              refine k_t rfl ?_
              refine k_seq ?_
              refine k_rg ?_
              refine s_run rfl rfl (r_as (v := .slice _ _ _) rfl) ?_
              refine s_run rfl rfl (r_as (v := .int _ _) rfl) ?_
              refine k_nil ?_
              refine c_norm ?_
              refine k_ret ?_
              refine c_ret ?_
              refine fin2r (v := .slice _ _ _) (v2 := .int _ _) rfl rfl rfl ?_
              exact RdPost.err H _
            · rw [if_neg hw] at hR
              subst hR
              refine k_seq ?_
              refine k_seq ?_
              refine k_rg ?_
              refine s_run rfl rfl (r_mv (v := .slice _ _ _) rfl) ?_
              refine s_run rfl rfl (r_len rfl Try.underlying25) ?_
              refine s_run rfl rfl (r_mv (v := .slice _ _ _) rfl) ?_
              refine s_run rfl rfl (r_ix1 (i := 1) rfl rfl (by omega) (by omega) Try.underlying25 sz22) ?_
              refine s_run rfl rfl (r_lv H 1 rfl rfl hx1 ag22) ?_
              refine s_run rfl rfl (r_cv rfl (by kernel_rfl) Try.underlying3 (wI (by omega))) ?_
              refine s_run rfl rfl (r_lssF rfl rfl (by omega)) ?_
              refine k_nil ?_
              refine c_norm ?_
              refine k_f rfl ?_
              refine k_exit ?_
              refine c_exit ?_
              refine c_exit ?_
              refine b_hit ?_
              refine c_norm ?_
              refine k_seq ?_
              refine k_seq ?_
              refine k_rg ?_
              refine s_run rfl rfl (r_mv (v := .int _ _) rfl) ?_
              refine s_run rfl rfl (r_mv (v := .int _ _) rfl) ?_
              refine s_run rfl rfl (r_lssF rfl rfl (by omega)) ?_
              refine k_nil ?_
              refine c_norm ?_
              refine k_f rfl ?_
              refine k_skip ?_
              refine c_norm ?_
              refine k_seq ?_
              refine k_rg ?_
              refine s_run rfl rfl (r_mv (v := .slice _ _ _) rfl) ?_
              refine s_run rfl rfl (r_as (v := .slice _ _ _) rfl) ?_
              refine s_run rfl rfl (r_as (v := .int _ _) rfl) ?_
              refine k_nil ?_
              refine c_norm ?_
              refine k_ret ?_
              refine fin2r (v := .slice _ _ _) (v2 := .int _ _) rfl rfl rfl ?_
              exact ⟨A2, c2, rfl, H.drops (A := [_])⟩
      · rw [if_pos (by simpa using c1)] at hld
        subst hld
        refine k_rg ?_
        refine s_run rfl rfl (r_mv (v := .slice _ _ _) rfl) ?_
        refine s_run rfl rfl (r_len rfl Try.underlying25) ?_
        refine s_run rfl rfl (r_sub rfl rfl (wI (by omega))) ?_
        refine s_run rfl rfl (r_as (v := .int _ _) rfl) ?_
        refine k_nil ?_
        refine c_norm ?_
        refine k_seq ?_
        refine k_seq ?_
        refine k_rg ?_
        refine s_run rfl rfl (r_mv (v := .slice _ _ _) rfl) ?_
        refine s_run rfl rfl (r_ix1 (i := 0) rfl rfl (by omega) (by omega) Try.underlying25 sz22) ?_
        refine s_run rfl rfl (r_lv H 0 rfl rfl hx0 ag22) ?_
        refine s_run rfl rfl (r_neqF rfl rfl (by omega)) ?_
        refine k_nil ?_
        refine c_norm ?_
        refine k_f rfl ?_
        refine k_skip ?_
        refine c_norm ?_
        refine k_seq ?_
        refine k_seq ?_
        refine k_q mixed (by kernel_rfl) H ?_
        refine q_run rfl rfl (fun _ H => r_mv (v := .slice _ _ _) rfl) ?_
        refine q_run rfl rfl (fun _ H => r_mv (v := .int _ _) rfl) ?_
        refine q_run rfl rfl (fun _ H => r_ix1 (i := W0.length - 1) rfl rfl (by omega) (by omega) Try.underlying25 sz22) ?_
        refine q_run rfl rfl (fun _ H => r_lv H 0 rfl rfl hxl ag22) ?_
        refine q_run rfl rfl (fun _ H => r_mv (v := .slice _ _ _) rfl) ?_
        refine q_run rfl rfl (fun _ H => r_mv (v := .int _ _) rfl) ?_
        refine q_run rfl rfl (fun _ H => r_shi (j := W0.length - 1) rfl rfl (by omega) (by omega) Try.underlying25 sz22) ?_
        refine q_call rfl rfl (fun _ H => rcWords _ _ _ (W0.take (W0.length - 1)) _ (((by simpa using H.reads 0 rfl 0 (W0.length - 1) : Reads (Value.int .u64) _ b 0 (W0.take (W0.length - 1)))).sees) hq2 (hWU.take _) (by omega)) (ca66 rfl) ?_
        refine q_run rfl rfl (fun _ H => r_cv rfl (by kernel_rfl) Try.underlying22 (wU (by omega))) ?_
        refine q_run rfl rfl (fun _ H => r_neqT rfl rfl (by omega)) ?_
        refine q_nil ?_
        intro _ H'; clear H; have H := H'; clear H'
        refine c_norm ?_
        refine k_t rfl ?_
        refine k_seq ?_
        refine k_rg ?_
        refine s_run rfl rfl (r_as (v := .slice _ _ _) rfl) ?_
        refine s_run rfl rfl (r_as (v := .int _ _) rfl) ?_
        refine k_nil ?_
        refine c_norm ?_
        refine k_ret ?_
        refine c_ret ?_
        refine fin2r (v := .slice _ _ _) (v2 := .int _ _) rfl rfl rfl ?_
        exact RdPost.err H _
    · rw [if_pos (by simpa using c0)] at hld
      subst hld
      refine k_rg ?_
      refine s_run rfl rfl (r_mv (v := .slice _ _ _) rfl) ?_
      refine s_run rfl rfl (r_len rfl Try.underlying25) ?_
      refine s_run rfl rfl (r_sub rfl rfl (wI (by omega))) ?_
      refine s_run rfl rfl (r_as (v := .int _ _) rfl) ?_
      refine k_nil ?_
      refine c_norm ?_
      refine k_seq ?_
      refine k_seq ?_
      refine k_rg ?_
      refine s_run rfl rfl (r_mv (v := .slice _ _ _) rfl) ?_
      refine s_run rfl rfl (r_ix1 (i := 0) rfl rfl (by omega) (by omega) Try.underlying25 sz22) ?_
      refine s_run rfl rfl (r_lv H 0 rfl rfl hx0 ag22) ?_
      refine s_run rfl rfl (r_neqT rfl rfl (by omega)) ?_
      refine k_nil ?_
      refine c_norm ?_
      refine k_t rfl ?_
      refine k_seq ?_
      refine k_rg ?_
      refine s_run rfl rfl (r_as (v := .slice _ _ _) rfl) ?_
      refine s_run rfl rfl (r_as (v := .int _ _) rfl) ?_
      refine k_nil ?_
      refine c_norm ?_
      refine k_ret ?_
      refine c_ret ?_
      refine fin2r (v := .slice _ _ _) (v2 := .int _ _) rfl rfl rfl ?_
      exact RdPost.err H _
end Go.Proofs.Ytmekhdclnhhhbaa
end

section
namespace Go.Proofs.Ytmekhdclnhhhbaa
open Go.RowKit
set_option linter.unusedSimpArgs false
set_option linter.unusedVariables false
theorem RefOk.at {w W : World} {L : List Ent} {F X : List Nat} {s : RefS} {d : Nv.D} {m : Nat} (hr : RefOk w (F ++ X) s d m) (H : Heap w F L W) : RefOk W ((F ++ X) ++ ids L) s d m :=
  (hr.news (G := (F ++ X) ++ ids L) (fun i hi => by
    rcases List.mem_append.1 hi with h | h
    · exact .inl h
    · rcases H.own i h with h | h
      · exact .inl (List.mem_append_left _ h)
      · exact .inr h)).later H.only (fun _ h => List.mem_append_left _ (List.mem_append_left _ h))
theorem Heap.fl {w W : World} {L : List Ent} {F G : List Nat} (H : Heap w F L W) (hG : ∀ i ∈ G, i < w.heap.size) : ∀ i ∈ G ++ ids L, i < W.heap.size := by
  intro i hi
  rcases List.mem_append.1 hi with h | h
  · exact Nat.lt_of_lt_of_le (hG i h) H.only.size
  · exact H.idlt i h
section
variable (g : Geo) (d : Nv.D) (s : RefS) (m : Nat) (k a n v : Int) (A : Option Addr) (nc cc : Nat) (cs : List Int) (X : List Nat) (w : World)

end
end Go.Proofs.Ytmekhdclnhhhbaa
end

section
namespace Go.Proofs.Ytmekhdclnhhhbaa
open Go.RowKit
set_option linter.unusedSimpArgs false
set_option linter.unusedVariables false
theorem load8 : Nv.Ok (Nv.load (List.replicate (8 * 1) 0) 1) 1 := ⟨rfl, rfl, rfl, rfl, rfl⟩
/-- a call, as the script holds it -/
structure OpS where
  k : Int
  a : Int
  n : Int
  v : Int
  A : Option Addr
  nc : Nat
  cc : Nat
  cs : List Int
def OpS.cells (o : OpS) : List Value := [.int .i64 o.k, .int .i64 o.a, .int .i64 o.n, .int .u64 o.v, .slice o.A o.nc o.cc]
structure OpOk (w : World) (o : OpS) : Prop where
  see : Sees (Value.int .u8) w [] o.A o.cs
  len : o.cs.length = o.nc
  bd : ∀ z ∈ o.cs, 0 ≤ z
  n1 : -9223372036854775808 ≤ o.n ∧ o.n ≤ 9223372036854775807
  ncb : o.nc ≤ 9223372036854775807
  vb : 0 ≤ o.v ∧ o.v ≤ 18446744073709551615
def Script (w : World) (A : Option Addr) (ops : List OpS) : Prop := (ops.length ≠ 0 → ∃ b o, A = some ⟨b, o, none⟩ ∧ ∀ i op, ops[i]? = some op → Reads (fun v : Value => v) w b (o + i * 5) op.cells) ∧ ∀ op ∈ ops, OpOk w op
end Go.Proofs.Ytmekhdclnhhhbaa
end

section
namespace Go.Proofs.Ytmekhdclnhhhbaa
open Go.RowKit
set_option linter.unusedSimpArgs false
set_option linter.unusedVariables false
def start (zs : List Int) : Nv.D := Nv.load (zs ++ List.replicate (8 * ((zs.length + 7) / 8) - zs.length) 0) ((zs.length + 7) / 8)
end Go.Proofs.Ytmekhdclnhhhbaa
end

section
namespace Go.Proofs.Ytmekhdclnhhhbaa
set_option linter.unusedSimpArgs false
set_option linter.unusedVariables false
section
open Go.ChangeShapes Go.WideShapes Go.Deep
variable {H : Type} {enc : TypeId × Value → H} {w : World} {base : Nat} {spare : Nat → Bool} {held : Bool}
theorem add_none {b o i : Nat} : (⟨b, o, none⟩ : Addr).add i = ⟨b, o + i, none⟩ := by
  unfold Addr.add; split
  · subst_vars; rfl
  · rfl
theorem row_words {k : IntKind} {A : Option Addr} {n c : Nat} {zs : List Int} (h : IsRow k w A n c zs) : Sees (Value.int k) w [] A (zs.take n) ∧ (zs.take n).length = n ∧ n ≤ c ∧ c ≤ maxLen ∧ ∀ z ∈ zs.take n, (Lit.int k z).wf = true := by
  rcases h with ⟨rfl, rfl, rfl, rfl⟩ | ⟨x, rfl, hl, hm, hz, hcell, hwf⟩
  · exact ⟨Sees.nil, rfl, by omega, by decide, by simp⟩
  · refine ⟨fun h0 => ?_, by simp; omega, hl, hm, fun z hz => hwf z (List.mem_of_mem_take hz)⟩
    obtain ⟨b, off, spot⟩ := x
    have h0' : 0 < n := by simp at h0; omega
    have hc0 := hcell 0 (by omega)
    have hspot : spot = none := by simpa [Addr.add] using World.cell?_spot hc0
    subst hspot
    refine ⟨b, off, rfl, by simp, fun j z hj => ?_⟩
    have hjl : j < n := by have := (List.getElem?_eq_some_iff.1 hj).1; simp at this; omega
    rw [List.getElem?_take_of_lt hjl] at hj
    have hc2 := hcell j (by omega)
    rw [add_none] at hc2
    rw [hc2]
    simp [List.getD, hj]
end
open Go.RowKit
theorem OpOk.later {w W : World} {o : OpS} (h : OpOk w o) (hO : Only [] w W) : OpOk W o := ⟨h.see.later hO (by simp), h.len, h.bd, h.n1, h.ncb, h.vb⟩
theorem Script.later {w W : World} {A : Option Addr} {ops : List OpS} (h : Script w A ops) (hO : Only [] w W) : Script W A ops :=
  ⟨fun h0 => by
    obtain ⟨b, o, e, hr⟩ := h.1 h0
    exact ⟨b, o, e, fun i op hi => (hr i op hi).later hO (by simp)⟩, fun op hop => (h.2 op hop).later hO⟩
end Go.Proofs.Ytmekhdclnhhhbaa
end

section
namespace Go.Proofs.Ytmekhdclnhhhbaa
open Go.RowKit
set_option linter.unusedSimpArgs false
set_option linter.unusedVariables false
section
variable {P : Program} {n : Nat} {f : Nat → Value} {x y : Operand} {t t2 ty : TypeId} {pos : String} {af : Array Edge} {g : Option (Nat × Bool)} {dst : Option Tmp} {W : World}
end
end Go.Proofs.Ytmekhdclnhhhbaa
end

section
namespace Go.Proofs.Ytmekhdclnhhhbaa.Nv
set_option linter.unusedSimpArgs false
set_option linter.unusedVariables false
theorem getD_set {α : Type} (l : List α) (i j : Nat) (v z : α) (hi : i < l.length) : (l.set i v).getD j z = if i = j then v else l.getD j z := by
  simp only [List.getD, List.getElem?_set]
  split
  · subst_vars; simp [hi]
  · rfl
/-- a line that is not dirty lasts as it is; what is pending is dirty -/
structure Inv (d : D) (m : Nat) : Prop where
  ok : Ok d m
  cl : ∀ x, x < 8 * m → d.dirty.getD (x / 8) false = false → d.last.getD x 0 = d.cache.getD x 0
  pd : ∀ i, d.pend.getD i false = true → d.dirty.getD i false = true
theorem Inv.load (ws : List Int) (m : Nat) (h : ws.length = 8 * m) : Inv (load ws m) m :=
  ⟨⟨h, h, by simp [Nv.load, h], by simp [Nv.load], by simp [Nv.load]⟩, fun _ _ _ => rfl, fun i hi => by
    have : (List.replicate m false).getD i false = true := hi
    simp only [List.getD, List.getElem?_replicate] at this
    split at this <;> simp at this⟩
theorem Inv.killed {d : D} {m : Nat} (h : Inv d m) : Inv (killed d) m := ⟨h.ok.killed, h.cl, h.pd⟩
theorem Inv.stepped {d : D} {m : Nat} (h : Inv d m) : Inv (stepped d) m := ⟨h.ok.stepped, h.cl, h.pd⟩
theorem Inv.put {d : D} {m : Nat} (h : Inv d m) {a : Nat} (ha : a < 8 * m) (v : Int) : Inv (put d a v) m := by
  have hd := h.ok.hd
  have hc := h.ok.hc
  refine ⟨h.ok.put a v, fun x hx hdx => ?_, fun i hi => ?_⟩
  · have e : (d.dirty.set (a / 8) true).getD (x / 8) false = false := hdx
    rw [getD_set _ _ _ _ _ (by omega)] at e
    split at e
    · cases e
    · show d.last.getD x 0 = (d.cache.set a v).getD x 0
      rw [getD_set _ _ _ _ _ (by omega), if_neg (by rintro rfl; exact absurd rfl ‹_›)]
      exact h.cl x hx e
  · show (d.dirty.set (a / 8) true).getD i false = true
    rw [getD_set _ _ _ _ _ (by omega)]
    split
    · rfl
    · exact h.pd i hi
theorem Inv.flushed {d : D} {m : Nat} (h : Inv d m) {i : Nat} (hi : i < m) (hd : d.dirty.getD i false = true) : Inv (flushed d i) m := by
  have hp := h.ok.hp
  refine ⟨h.ok.flushed hi, h.cl, fun j hj => ?_⟩
  have e : (d.pend.set i true).getD j false = true := hj
  rw [getD_set _ _ _ _ _ (by omega)] at e
  split at e
  · subst_vars; exact hd
  · exact h.pd j e
theorem Inv.store {d : D} {m : Nat} (h : Inv d m) (a v : Int) : Inv (store d m a v).1 m := by
  unfold Nv.store; split
  · split
    · exact h.killed
    · exact h.stepped.put (by omega) _
  · exact h
end Go.Proofs.Ytmekhdclnhhhbaa.Nv
end

section
namespace Go.Proofs.Ytmekhdclnhhhbaa
open Go.RowKit
set_option linter.unusedSimpArgs false
set_option linter.unusedVariables false
theorem iAwake (w : World) : Calls Try.prog 40 [].toArray w fun e w' => e = .returned (.bool true) ∧ Only [] w w' := by
  have H := Heap.nil w
  have hS := fun g W hE => iSave g (Nv.load (List.replicate (8 * 1) 0) 1) 1 W hE load8 (fun x hx => by rw [(List.mem_replicate.1 hx).2]; decide) (by omega)
  have hU : Im.U (List.replicate (8 * 1) 0) := fun x hx => by rw [(List.mem_replicate.1 hx).2]; decide
  have hw : By.words (Im.save (List.replicate (8 * 1) 0)) = Im.out (List.replicate (8 * 1) 0) := By.words_bytes _ (Im.out_bd (by simp) hU)
  have hW := fun A c W hz => (cWordsOf A (Im.save (List.replicate (8 * 1) 0)).length c (Im.save (List.replicate (8 * 1) 0)) W hz rfl (By.bytes_bd _) (by rw [Im.save_len]; decide)).mono (fun e w' h => h.vec (by rw [hw]; simp [Im.out, Im.head]))
  rw [hw] at hW
  have ho : Im.out (List.replicate (8 * 1) 0) = [13905993476890996, 8, 8, 0, Im.sum (Im.head (List.replicate (8 * 1) 0))] := rfl
  rw [ho] at hW
  simp only [List.length_cons, List.length_nil, Nat.reduceAdd] at hW
  generalize Im.sum (Im.head (List.replicate (8 * 1) 0)) = sm at *
  refine k_in (N := 28) Try.func40 rfl rfl rfl ?_
  refine k_seq ?_
  refine k_rg ?_
  refine s_run rfl rfl (r_as (v := .bool _) rfl) ?_
  refine k_nil ?_
  refine c_norm ?_
  refine k_seq ?_
  refine k_rg ?_
  refine s_call rfl (nNew 8 _ (by omega)) (ca21 rfl) ?_
  rintro e W1 ⟨g, rfl, hg, H'⟩
  refine ⟨_, rfl, ?_⟩
  have H := H.more (A := [grp _]) (grp_heap H'); clear H'
  refine s_call rfl (hS g _ (H.grp_ents 0 rfl)) (ca48 rfl) ?_
  rintro e W1 ⟨A1, c1, rfl, H'⟩
  refine ⟨_, rfl, ?_⟩
  have H := H.more (A := [_]) H'; clear H'; simp only [List.cons_append, List.nil_append] at H
  refine s_call rfl (hW _ _ _ (H.own_sees 0 rfl)) (ca81 rfl) ?_
  rintro e W1 ⟨b, cb, rfl, hcb, hcm, H'⟩
  refine ⟨_, rfl, ?_⟩
  have H := H.more (A := [_]) H'; clear H'; simp only [List.cons_append, List.nil_append] at H
  refine s_run rfl rfl (r_as (v := .slice _ _ _) rfl) ?_
  refine k_nil ?_
  refine c_norm ?_
  refine k_seq ?_
  refine k_rg ?_
  refine s_run rfl rfl (r_mv (v := .slice _ _ _) rfl) ?_
  refine s_run rfl rfl (r_len rfl Try.underlying25) ?_
  refine s_run rfl rfl (r_eqlT rfl rfl (by omega)) ?_
  refine s_run rfl rfl (r_mv (v := .bool _) rfl) ?_
  refine s_run rfl (g_on 8 (by kernel_rfl) rfl) (r_mv (v := .slice _ _ _) rfl) ?_
  refine s_run rfl (g_on 8 (by kernel_rfl) rfl) (r_ix1 (i := 2) rfl rfl (by omega) (by omega) Try.underlying25 sz22) ?_
  refine s_run rfl (g_on 8 (by kernel_rfl) rfl) (r_lv (z := 8) H 0 rfl rfl rfl ag22) ?_
  refine s_run rfl (g_on 8 (by kernel_rfl) rfl) (r_eqlT rfl rfl (by omega)) ?_
  refine s_run rfl rfl (r_pkT (v := .bool _) rfl rfl) ?_
  refine s_run rfl rfl (r_mv (v := .bool _) rfl) ?_
  refine s_run rfl (g_on 14 (by kernel_rfl) rfl) (r_mv (v := .slice _ _ _) rfl) ?_
  refine s_run rfl (g_on 14 (by kernel_rfl) rfl) (r_ix1 (i := 3) rfl rfl (by omega) (by omega) Try.underlying25 sz22) ?_
  refine s_run rfl (g_on 14 (by kernel_rfl) rfl) (r_lv (z := 0) H 0 rfl rfl rfl ag22) ?_
  refine s_run rfl (g_on 14 (by kernel_rfl) rfl) (r_eqlT rfl rfl (by omega)) ?_
  refine s_run rfl rfl (r_pkT (v := .bool _) rfl rfl) ?_
  refine s_run rfl rfl (r_mv (v := .bool _) rfl) ?_
  refine s_run rfl (g_on 20 (by kernel_rfl) rfl) (r_mv (v := .slice _ _ _) rfl) ?_
  refine s_run rfl (g_on 20 (by kernel_rfl) rfl) (r_ix1 (i := 0) rfl rfl (by omega) (by omega) Try.underlying25 sz22) ?_
  refine s_run rfl (g_on 20 (by kernel_rfl) rfl) (r_lv (z := 13905993476890996) H 0 rfl rfl rfl ag22) ?_
  refine s_run rfl (g_on 20 (by kernel_rfl) rfl) (r_eqlT rfl rfl (by omega)) ?_
  refine s_run rfl rfl (r_pkT (v := .bool _) rfl rfl) ?_
  refine s_run rfl rfl (r_mv (v := .bool _) rfl) ?_
  refine s_run rfl rfl (r_pkT (v := .bool _) rfl rfl) ?_
  refine s_run rfl rfl (r_as (v := .bool _) rfl) ?_
  refine k_nil ?_
  refine c_norm ?_
  refine k_ret ?_
  refine fin1r (v := .bool _) rfl rfl ?_
  exact ⟨rfl, H.only⟩
end Go.Proofs.Ytmekhdclnhhhbaa
end

section
namespace Go.Proofs.Ytmekhdclnhhhbaa
open Go.RowKit
set_option linter.unusedVariables false
theorem RowAt.str {W : World} {A : Option Addr} {n c B : Nat} {xs : List Int} (h : RowAt W B A n (xs.map (Value.int .u8))) :
    (convert 49 9 (.slice A n c)).run Try.prog W = .ok (.string (strOfNums xs)) W := by
  have hl : xs.length = n := by simpa using h.1
  rcases Nat.eq_zero_or_pos n with h0 | h0
  · subst h0
    obtain rfl : xs = [] := List.eq_nil_of_length_eq_zero hl
    cases A with
    | none => exact run_convert_bytes_nil W _ _ Try.underlying49 Try.underlying5 _ _ _ Try.underlying9
    | some a =>
      rw [run_convert_bytes_string W _ _ _ _ 0 c Try.underlying49 Try.underlying5 Try.underlying9, run_bytesToString W _ 0 c [] (by rfl), foldl_push_bytes]
      simp [strOfNums, ByteArray.empty, ByteArray.emptyWithCapacity]
      rfl
  · obtain ⟨b, off, rfl, hb, hc⟩ := h.2 h0
    refine run_convert_bytes_arg W _ _ Try.underlying49 Try.underlying5 b off n c xs hl ?_ _ Try.underlying9
    intro i hi
    refine hc i _ ?_
    rw [List.getElem?_map, List.getD_eq_getElem?_getD, List.getElem?_eq_getElem (by omega)]
    rfl
/-- v reads as this text, in each later world -/
def Txt (W : World) (v : Value) (xs : List Int) : Prop := ∀ W' : World, Below W.heap.size W W' → (convert 49 9 v).run Try.prog W' = .ok (.string (strOfNums xs)) W'
theorem Txt.of_row {W : World} {A : Option Addr} {n c : Nat} {xs : List Int} (h : RowAt W W.heap.size A n (xs.map (Value.int .u8))) : Txt W (.slice A n c) xs :=
  fun W' hb => (h.below hb).str
theorem Txt.of_own {W : World} {base n : Nat} {v : Value} {xs : List Int} (h : W.ownsRow base 5 1 v n (xs.map (Value.int .u8))) : Txt W v xs := by
  obtain ⟨A, c, rfl, _⟩ := own_shape h
  exact Txt.of_row (RowAt.of_own h)
theorem Txt.now {W : World} {v : Value} {xs : List Int} (h : Txt W v xs) : (convert 49 9 v).run Try.prog W = .ok (.string (strOfNums xs)) W := h W (Below.refl _ _)
theorem Txt.later {W W' : World} {v : Value} {xs : List Int} (h : Txt W v xs) (hb : Below W.heap.size W W') : Txt W' v xs :=
  fun W2 h2 => h W2 (hb.trans (h2.mono hb.size))
end Go.Proofs.Ytmekhdclnhhhbaa
end

section
namespace Go.Proofs.Ytmekhdclnhhhbaa
set_option linter.unusedSimpArgs false
set_option linter.unusedVariables false
open Go.RowKit
theorem r_str {n : Nat} {f : Nat → Value} {W : World} {dst : Option Tmp} {ty : TypeId} {pos : String} {af : Array Edge} {g : Option (Nat × Bool)} {x : Operand} {A : Option Addr} {m c : Nat} {xs : List Int}
    (hx : ev n f x = .slice A m c) (hz : Sees (Value.int .u8) W [] A xs) (hl : xs.length = m) :
    (execOp (ev n f) ⟨dst, .convert 49 9 x, ty, pos, af, g⟩).run Try.prog W = .ok (.value (.string (strOfNums xs))) W := by
  simp only [execOp, hx, Sem.run_bind, (hz.row hl).str, Result.andThen_ok]; rfl
section
variable {P : Program} {n : Nat} {f : Nat → Value} {W : World} {dst : Option Tmp} {ty : TypeId} {pos : String} {af : Array Edge} {g : Option (Nat × Bool)} {x y : Operand} {t t2 : TypeId} {a b : ByteArray}
theorem r_seq (hx : ev n f x = .string a) (hy : ev n f y = .string b) (h : a = b) (ht : P.underlying t = some .string) :
    (execOp (ev n f) ⟨dst, .binOp .eql t x y t2, ty, pos, af, g⟩).run P W = .ok (.value (.bool true)) W := by
  subst h
  have h1 : (eqGuard .eql t x y (.string a) (.string a)).run P W = .ok () W := by simp [eqGuard]
  have h2 : (binOp .eql t (.string a) (.string a)).run P W = .ok (.bool true) W := by
    simp [binOp, Op.stringOp]
  simp only [execOp, hx, hy, Sem.run_bind, h1, h2, Result.andThen_ok]
  rfl
theorem r_ptnnilF (hx : ev n f x = .pointer none) (hy : ev n f y = .pointer none) {d : TypeId} (ht : P.underlying t = some (.pointer d)) : (execOp (ev n f) ⟨dst, .binOp .neq t x y t2, ty, pos, af, g⟩).run P W = .ok (.value (.bool false)) W := r_ptnnil hx hy ht
end
end Go.Proofs.Ytmekhdclnhhhbaa
end

section
namespace Go.Proofs.Ytmekhdclnhhhbaa
open Go.RowKit
set_option linter.unusedSimpArgs false
set_option linter.unusedVariables false
theorem row_bytes {A : Option Addr} {n c : Nat} {zs : List Int} {w : World} (h : IsRow .u8 w A n c zs) : By.IsBytes (zs.take n) := by
  obtain ⟨_, _, _, _, hw⟩ := row_words h
  exact fun z hz => bounds_u8 (hw z hz)
theorem walk_ImageReads (A : Option Addr) (n c : Nat) (zs : List Int) (w : World) (hr : IsRow .u8 w A n c zs) :
    Calls Try.prog 10 [.slice A n c].toArray w fun e w' => e = .returned (.bool true) ∧ Below w.heap.size w w' := by
  obtain ⟨hz, lz, hnc, hcm, _⟩ := row_words hr
  have hU := row_bytes hr
  unfold maxLen at hcm
  have H := Heap.nil w
  generalize zs.take n = xs at *
  by_cases h1 : 3000 < n
  · refine k_in (N := 50) Try.func10 rfl rfl rfl ?_
    refine k_seq ?_
    refine k_rg ?_
    refine s_run rfl rfl (r_as (v := .bool _) rfl) ?_
    refine k_nil ?_
    refine c_norm ?_
    refine k_seq ?_
    refine k_seq ?_
    refine k_rg ?_
    refine s_call rfl (iAwake _) (ca40 rfl) ?_
    rintro e W1 ⟨rfl, H'⟩
    refine ⟨_, rfl, ?_⟩
    have H := H.same H'; clear H'
    refine s_run rfl rfl (r_notT rfl) ?_
    refine k_nil ?_
    refine c_norm ?_
    refine k_f rfl ?_
    refine k_skip ?_
    refine c_norm ?_
    refine k_seq ?_
    refine k_seq ?_
    refine k_rg ?_
    refine s_run rfl rfl (r_mv (v := .slice _ _ _) rfl) ?_
    refine s_run rfl rfl (r_len rfl Try.underlying49) ?_
    refine s_run rfl rfl (r_gtrT rfl rfl (by omega)) ?_
    refine k_nil ?_
    refine c_norm ?_
    refine k_t rfl ?_
    refine k_seq ?_
    refine k_rg ?_
    refine s_run rfl rfl (r_as (v := .bool _) rfl) ?_
    refine k_nil ?_
    refine c_norm ?_
    refine k_ret ?_
    refine c_ret ?_
    refine fin1r (v := .bool _) rfl rfl ?_
    exact ⟨rfl, H.only.below⟩
  have hsv := Im.save_load (R := (Im.load xs).1) hU
  have hL := fun W hz => iLoad A n c xs W hz lz hU (by omega)
  have hR := fun W hz => iRLoad A n c xs W hz lz hU (by omega)
  generalize Im.load xs = R at *
  by_cases hc : R.2 = 0
  · obtain ⟨s1, s2, s3, s4⟩ := hsv (Prod.ext rfl hc)
    have hm : 8 * (R.1.length / 8) = R.1.length := by omega
    have ho : Nv.Ok (Nv.load R.1 (R.1.length / 8)) (R.1.length / 8) := (Nv.Inv.load _ _ (by omega)).ok
    have hL2 : ∀ W, Sees (Value.int .u8) W [] A xs → Calls Try.prog 45 [.slice A n c].toArray W fun e w' => ∃ g, e = .returned (.tuple #[ptr g.p, .int .i64 0]) ∧ GOk g (R.1.length / 8) ∧ Heap W [] (devL g (Nv.load R.1 (R.1.length / 8))) w' := fun W hz => (hL W hz).mono (by
      rintro e w' (⟨h0, _⟩ | ⟨_, h⟩)
      · exact absurd hc h0
      · exact h)
    have hR2 : ∀ W, Sees (Value.int .u8) W [] A xs → Calls Try.prog 46 [.slice A n c].toArray W fun e w' => ∃ A' c', e = .returned (.tuple #[.slice A' R.1.length c', .int .i64 0]) ∧ Heap W [] [ownN 1 (.slice A' R.1.length c') R.1.length (R.1.map (Value.int .u64)) 22] w' := fun W hz => (hR W hz).mono (by
      rintro e w' ⟨A', c', he, H⟩
      rw [hc] at he
      exact ⟨A', c', he, H⟩)
    have hA := fun g W hE => nAll g (Nv.load R.1 (R.1.length / 8)) (R.1.length / 8) W hE ho (by omega)
    rw [hm] at hA
    have hSv := fun g W hE => iSave g (Nv.load R.1 (R.1.length / 8)) (R.1.length / 8) W hE ho s4 (by omega)
    have e0 : Im.save (Nv.load R.1 (R.1.length / 8)).last = xs := s1
    rw [e0] at hSv
    have hSm := fun (A B : Option Addr) (c c2 : Nat) W hx hy => rSame A B R.1.length R.1.length c c2 R.1 R.1 W hx hy rfl rfl (by omega)
    rw [same_self] at hSm
    refine k_in (N := 50) Try.func10 rfl rfl rfl ?_
    refine k_seq ?_
    refine k_rg ?_
    refine s_run rfl rfl (r_as (v := .bool _) rfl) ?_
    refine k_nil ?_
    refine c_norm ?_
    refine k_seq ?_
    refine k_seq ?_
    refine k_rg ?_
    refine s_call rfl (iAwake _) (ca40 rfl) ?_
    rintro e W1 ⟨rfl, H'⟩
    refine ⟨_, rfl, ?_⟩
    have H := H.same H'; clear H'
    refine s_run rfl rfl (r_notT rfl) ?_
    refine k_nil ?_
    refine c_norm ?_
    refine k_f rfl ?_
    refine k_skip ?_
    refine c_norm ?_
    refine k_seq ?_
    refine k_seq ?_
    refine k_rg ?_
    refine s_run rfl rfl (r_mv (v := .slice _ _ _) rfl) ?_
    refine s_run rfl rfl (r_len rfl Try.underlying49) ?_
    refine s_run rfl rfl (r_gtrF rfl rfl (by omega)) ?_
    refine k_nil ?_
    refine c_norm ?_
    refine k_f rfl ?_
    refine k_skip ?_
    refine c_norm ?_
    refine k_seq ?_
    refine k_rg ?_
    refine s_run rfl rfl (r_mv (v := .slice _ _ _) rfl) ?_
    refine s_call rfl (hL2 _ (hz.later H.only (by simp))) (ca45 rfl) ?_
    rintro e W1 ⟨g, rfl, hg, H'⟩
    refine ⟨_, rfl, ?_⟩
    have H := H.more (A := [grp _]) (grp_heap H'); clear H'
    refine s_run rfl rfl (r_mv (v := .tuple _) rfl) ?_
    refine s_run rfl rfl (r_ext (v := .pointer _) rfl rfl) ?_
    refine s_run rfl rfl (r_ext (v := .int _ _) rfl rfl) ?_
    refine s_run rfl rfl (r_as (v := .pointer _) rfl) ?_
    refine s_run rfl rfl (r_as (v := .int _ _) rfl) ?_
    refine k_nil ?_
    refine c_norm ?_
    refine k_seq ?_
    refine k_rg ?_
    refine s_run rfl rfl (r_mv (v := .slice _ _ _) rfl) ?_
    refine s_call rfl (hR2 _ (hz.later H.only (by simp))) (ca46 rfl) ?_
    rintro e W1 ⟨A', c', rfl, H'⟩
    refine ⟨_, rfl, ?_⟩
    have H := H.more (A := [_]) H'; clear H'; simp only [List.cons_append, List.nil_append] at H
    refine s_run rfl rfl (r_mv (v := .tuple _) rfl) ?_
    refine s_run rfl rfl (r_ext (v := .slice _ _ _) rfl rfl) ?_
    refine s_run rfl rfl (r_ext (v := .int _ _) rfl rfl) ?_
    refine s_run rfl rfl (r_as (v := .slice _ _ _) rfl) ?_
    refine s_run rfl rfl (r_as (v := .int _ _) rfl) ?_
    refine k_nil ?_
    refine c_norm ?_
    refine k_seq ?_
    refine k_seq ?_
    refine k_rg ?_
    refine s_run rfl rfl (r_mv (v := .int _ _) rfl) ?_
    refine s_run rfl rfl (r_mv (v := .int _ _) rfl) ?_
    refine s_run rfl rfl (r_neqF rfl rfl (by omega)) ?_
    refine s_run rfl rfl (r_mv (v := .bool _) rfl) ?_
    refine s_run rfl (g_on 25 (by kernel_rfl) rfl) (r_mv (v := .pointer _) rfl) ?_
    refine s_run rfl (g_on 25 (by kernel_rfl) rfl) (r_ptnnilT rfl rfl Try.underlying26) ?_
    refine s_run rfl (g_on 25 (by kernel_rfl) rfl) (r_mv (v := .int _ _) rfl) ?_
    refine s_run rfl (g_on 25 (by kernel_rfl) rfl) (r_eqlT rfl rfl (by omega)) ?_
    refine s_run rfl (g_on 25 (by kernel_rfl) rfl) (r_bneq rfl rfl rfl Try.underlying4) ?_
    refine s_run rfl rfl (r_pkF (v := .bool _) rfl rfl) ?_
    refine k_nil ?_
    refine c_norm ?_
    refine k_f rfl ?_
    refine k_skip ?_
    refine c_norm ?_
    refine k_seq ?_
    refine k_seq ?_
    refine k_rg ?_
    refine s_run rfl rfl (r_mv (v := .pointer _) rfl) ?_
    refine s_run rfl rfl (r_ptnilF rfl rfl Try.underlying26) ?_
    refine k_nil ?_
    refine c_norm ?_
    refine k_f rfl ?_
    refine k_skip ?_
    refine c_norm ?_
    refine k_seq ?_
    refine k_seq ?_
    refine k_rg ?_
    refine s_run rfl rfl (r_mv (v := .pointer _) rfl) ?_
    refine s_call rfl (hA g _ (H.grp_ents 1 rfl)) (ca47 rfl) ?_
    rintro e W1 ⟨ba, ca, rfl, hca, H'⟩
    refine ⟨_, rfl, ?_⟩
    have H := H.more (A := [_]) H'; clear H'; simp only [List.cons_append, List.nil_append] at H
    refine s_run rfl rfl (r_mv (v := .slice _ _ _) rfl) ?_
    refine s_call rfl (hSm _ _ _ _ _ (H.sees (m := 1) 0 rfl (by simp) (fun _ => rfl) (by simp)) (H.own_sees 1 rfl)) (ca42 rfl) ?_
    rintro e W1 ⟨rfl, H'⟩
    refine ⟨_, rfl, ?_⟩
    have H := H.same H'; clear H'
    refine s_run rfl rfl (r_notT rfl) ?_
    refine k_nil ?_
    refine c_norm ?_
    refine k_f rfl ?_
    refine k_skip ?_
    refine c_norm ?_
    refine k_seq ?_
    by_cases h5 : 5000 < R.1.length
    · refine k_q mixed (by kernel_rfl) H ?_
      refine q_run rfl rfl (fun _ H => r_mv (v := .slice _ _ _) rfl) ?_
      refine q_run rfl rfl (fun _ H => r_len rfl Try.underlying25) ?_
      refine q_run rfl rfl (fun _ H => r_gtrT rfl rfl (by omega)) ?_
      refine q_run rfl rfl (fun _ H => r_mv (v := .bool _) rfl) ?_
      refine q_off rfl (g_off 42 (by kernel_rfl) rfl rfl) ?_
      refine q_off rfl (g_off 42 (by kernel_rfl) rfl rfl) ?_
      refine q_off rfl (g_off 42 (by kernel_rfl) rfl rfl) ?_
      refine q_off rfl (g_off 42 (by kernel_rfl) rfl rfl) ?_
      refine q_off rfl (g_off 42 (by kernel_rfl) rfl rfl) ?_
      refine q_off rfl (g_off 42 (by kernel_rfl) rfl rfl) ?_
      refine q_run rfl rfl (fun _ H => r_pkT (v := .bool _) rfl rfl) ?_
      refine q_run rfl rfl (fun _ H => r_as (v := .bool _) rfl) ?_
      refine q_nil ?_
      intro _ H'; clear H; have H := H'; clear H'
      refine c_norm ?_
      refine k_ret ?_
      refine fin1r (v := .bool _) rfl rfl ?_
      exact ⟨rfl, H.only.below⟩
    · refine k_trF mixed ?_; have H' := H.drew; clear H; have H := H'; clear H'
      refine t_take 0 rfl (by kernel_rfl) (by kernel_rfl) (by kernel_rfl) rfl (fun _ _ _ _ h => h) rfl (fun _ hS => r_mv (v := .slice _ _ _) rfl) trivial ?_
      refine t_take 1 rfl (by kernel_rfl) (by kernel_rfl) (by kernel_rfl) rfl (fun _ _ _ _ h => h) rfl (fun _ hS => r_len rfl Try.underlying25) trivial ?_
      refine t_take 2 rfl (by kernel_rfl) (by kernel_rfl) (by kernel_rfl) rfl (fun _ _ _ _ h => h) rfl (fun _ hS => r_gtrF rfl rfl (by omega)) trivial ?_
      refine t_take 3 rfl (by kernel_rfl) (by kernel_rfl) (by kernel_rfl) rfl (fun _ _ _ _ h => h) rfl (fun _ hS => r_mv (v := .bool _) rfl) trivial ?_
      refine t_take 4 rfl (by kernel_rfl) (by kernel_rfl) (by kernel_rfl) rfl (fun _ _ _ _ h => h) (g_on 42 (by kernel_rfl) rfl) (fun _ hS => r_mv (v := .pointer _) rfl) trivial ?_
      refine t_take 7 rfl (by kernel_rfl) (by kernel_rfl) (by kernel_rfl) rfl (fun _ _ _ _ h => h) (g_on 42 (by kernel_rfl) rfl) (fun _ hS => r_mv (v := .slice _ _ _) rfl) trivial ?_
      refine t_up2 5 8 (by kernel_rfl) ?_ ?_
      · refine up_mk rfl ?_
        refine s_call (g_on 42 (by kernel_rfl) rfl) (hSv g _ (H.grp_ents 2 rfl)) (ca48 rfl) ?_
        rintro e W1 ⟨As, cs, rfl, H'⟩
        refine ⟨_, rfl, ?_⟩
        have H := H.more (A := [_]) H'; clear H'; simp only [List.cons_append, List.nil_append] at H
        refine k_nil ?_
        refine t_on trivial ?_
        refine t_up2 6 8 (by kernel_rfl) ?_ ?_
        · refine up_mk rfl ?_
          refine s_run rfl (g_on 42 (by kernel_rfl) rfl) (r_str rfl (H.own_sees 0 rfl) (rfl)) ?_
          refine k_nil ?_
          refine t_on trivial ?_
          refine t_up1 8 (by kernel_rfl) ?_
          refine up_mk rfl ?_
          refine s_run rfl (g_on 42 (by kernel_rfl) rfl) (r_str rfl (hz.later H.only (by simp)) (lz)) ?_
          refine k_nil ?_
          refine t_on trivial ?_
          refine t_take 9 rfl (by kernel_rfl) (by kernel_rfl) (by kernel_rfl) rfl (fun _ _ _ _ h => h) (g_on 42 (by kernel_rfl) rfl) (fun _ hS => r_seq rfl rfl rfl Try.underlying9) trivial ?_
          refine t_take 10 rfl (by kernel_rfl) (by kernel_rfl) (by kernel_rfl) rfl (fun _ _ _ _ h => h) rfl (fun _ hS => r_pkF (v := .bool _) rfl rfl) trivial ?_
          refine t_take 11 rfl (by kernel_rfl) (by kernel_rfl) (by kernel_rfl) rfl (fun _ _ _ _ h => h) rfl (fun _ hS => r_as (v := .bool _) rfl) trivial ?_
          refine t_done (by kernel_rfl) ?_
          refine c_norm ?_
          refine k_ret ?_
          refine fin1r (v := .bool _) rfl rfl ?_
          exact ⟨rfl, H.only.below⟩
        · refine up_mk rfl ?_
          refine s_run rfl (g_on 42 (by kernel_rfl) rfl) (r_str rfl (hz.later H.only (by simp)) (lz)) ?_
          refine k_nil ?_
          refine t_on trivial ?_
          refine t_up1 6 (by kernel_rfl) ?_
          refine up_mk rfl ?_
          refine s_run rfl (g_on 42 (by kernel_rfl) rfl) (r_str rfl (H.own_sees 0 rfl) (rfl)) ?_
          refine k_nil ?_
          refine t_on trivial ?_
          refine t_take 9 rfl (by kernel_rfl) (by kernel_rfl) (by kernel_rfl) rfl (fun _ _ _ _ h => h) (g_on 42 (by kernel_rfl) rfl) (fun _ hS => r_seq rfl rfl rfl Try.underlying9) trivial ?_
          refine t_take 10 rfl (by kernel_rfl) (by kernel_rfl) (by kernel_rfl) rfl (fun _ _ _ _ h => h) rfl (fun _ hS => r_pkF (v := .bool _) rfl rfl) trivial ?_
          refine t_take 11 rfl (by kernel_rfl) (by kernel_rfl) (by kernel_rfl) rfl (fun _ _ _ _ h => h) rfl (fun _ hS => r_as (v := .bool _) rfl) trivial ?_
          refine t_done (by kernel_rfl) ?_
          refine c_norm ?_
          refine k_ret ?_
          refine fin1r (v := .bool _) rfl rfl ?_
          exact ⟨rfl, H.only.below⟩
      · refine up_mk rfl ?_
        refine s_run rfl (g_on 42 (by kernel_rfl) rfl) (r_str rfl (hz.later H.only (by simp)) (lz)) ?_
        refine k_nil ?_
        refine t_on trivial ?_
        refine t_up1 5 (by kernel_rfl) ?_
        refine up_mk rfl ?_
        refine s_call (g_on 42 (by kernel_rfl) rfl) (hSv g _ (H.grp_ents 2 rfl)) (ca48 rfl) ?_
        rintro e W1 ⟨As, cs, rfl, H'⟩
        refine ⟨_, rfl, ?_⟩
        have H := H.more (A := [_]) H'; clear H'; simp only [List.cons_append, List.nil_append] at H
        refine k_nil ?_
        refine t_on trivial ?_
        refine t_up1 6 (by kernel_rfl) ?_
        refine up_mk rfl ?_
        refine s_run rfl (g_on 42 (by kernel_rfl) rfl) (r_str rfl (H.own_sees 0 rfl) (rfl)) ?_
        refine k_nil ?_
        refine t_on trivial ?_
        refine t_take 9 rfl (by kernel_rfl) (by kernel_rfl) (by kernel_rfl) rfl (fun _ _ _ _ h => h) (g_on 42 (by kernel_rfl) rfl) (fun _ hS => r_seq rfl rfl rfl Try.underlying9) trivial ?_
        refine t_take 10 rfl (by kernel_rfl) (by kernel_rfl) (by kernel_rfl) rfl (fun _ _ _ _ h => h) rfl (fun _ hS => r_pkF (v := .bool _) rfl rfl) trivial ?_
        refine t_take 11 rfl (by kernel_rfl) (by kernel_rfl) (by kernel_rfl) rfl (fun _ _ _ _ h => h) rfl (fun _ hS => r_as (v := .bool _) rfl) trivial ?_
        refine t_done (by kernel_rfl) ?_
        refine c_norm ?_
        refine k_ret ?_
        refine fin1r (v := .bool _) rfl rfl ?_
        exact ⟨rfl, H.only.below⟩
  · have hL2 : ∀ W, Sees (Value.int .u8) W [] A xs → Calls Try.prog 45 [.slice A n c].toArray W fun e w' => e = .returned (.tuple #[.pointer none, .int .i64 R.2]) ∧ Only [] W w' := fun W hz => (hL W hz).mono (by
      rintro e w' (⟨_, h⟩ | ⟨h0, _⟩)
      · exact h
      · exact absurd h0 hc)
    refine k_in (N := 50) Try.func10 rfl rfl rfl ?_
    refine k_seq ?_
    refine k_rg ?_
    refine s_run rfl rfl (r_as (v := .bool _) rfl) ?_
    refine k_nil ?_
    refine c_norm ?_
    refine k_seq ?_
    refine k_seq ?_
    refine k_rg ?_
    refine s_call rfl (iAwake _) (ca40 rfl) ?_
    rintro e W1 ⟨rfl, H'⟩
    refine ⟨_, rfl, ?_⟩
    have H := H.same H'; clear H'
    refine s_run rfl rfl (r_notT rfl) ?_
    refine k_nil ?_
    refine c_norm ?_
    refine k_f rfl ?_
    refine k_skip ?_
    refine c_norm ?_
    refine k_seq ?_
    refine k_seq ?_
    refine k_rg ?_
    refine s_run rfl rfl (r_mv (v := .slice _ _ _) rfl) ?_
    refine s_run rfl rfl (r_len rfl Try.underlying49) ?_
    refine s_run rfl rfl (r_gtrF rfl rfl (by omega)) ?_
    refine k_nil ?_
    refine c_norm ?_
    refine k_f rfl ?_
    refine k_skip ?_
    refine c_norm ?_
    refine k_seq ?_
    refine k_rg ?_
    refine s_run rfl rfl (r_mv (v := .slice _ _ _) rfl) ?_
    refine s_call rfl (hL2 _ (hz.later H.only (by simp))) (ca45 rfl) ?_
    rintro e W1 ⟨rfl, H'⟩
    refine ⟨_, rfl, ?_⟩
    have H := H.same H'; clear H'
    refine s_run rfl rfl (r_mv (v := .tuple _) rfl) ?_
    refine s_run rfl rfl (r_ext (v := .pointer _) rfl rfl) ?_
    refine s_run rfl rfl (r_ext (v := .int _ _) rfl rfl) ?_
    refine s_run rfl rfl (r_as (v := .pointer _) rfl) ?_
    refine s_run rfl rfl (r_as (v := .int _ _) rfl) ?_
    refine k_nil ?_
    refine c_norm ?_
    refine k_seq ?_
    refine k_rg ?_
    refine s_run rfl rfl (r_mv (v := .slice _ _ _) rfl) ?_
    refine s_call rfl (hR _ (hz.later H.only (by simp))) (ca46 rfl) ?_
    rintro e W1 ⟨A', c', rfl, H'⟩
    refine ⟨_, rfl, ?_⟩
    have H := H.more (A := [_]) H'; clear H'; simp only [List.cons_append, List.nil_append] at H
    refine s_run rfl rfl (r_mv (v := .tuple _) rfl) ?_
    refine s_run rfl rfl (r_ext (v := .slice _ _ _) rfl rfl) ?_
    refine s_run rfl rfl (r_ext (v := .int _ _) rfl rfl) ?_
    refine s_run rfl rfl (r_as (v := .slice _ _ _) rfl) ?_
    refine s_run rfl rfl (r_as (v := .int _ _) rfl) ?_
    refine k_nil ?_
    refine c_norm ?_
    refine k_seq ?_
    refine k_seq ?_
    refine k_rg ?_
    refine s_run rfl rfl (r_mv (v := .int _ _) rfl) ?_
    refine s_run rfl rfl (r_mv (v := .int _ _) rfl) ?_
    refine s_run rfl rfl (r_neqF rfl rfl (by omega)) ?_
    refine s_run rfl rfl (r_mv (v := .bool _) rfl) ?_
    refine s_run rfl (g_on 25 (by kernel_rfl) rfl) (r_mv (v := .pointer _) rfl) ?_
    refine s_run rfl (g_on 25 (by kernel_rfl) rfl) (r_ptnnilF rfl rfl Try.underlying26) ?_
    refine s_run rfl (g_on 25 (by kernel_rfl) rfl) (r_mv (v := .int _ _) rfl) ?_
    refine s_run rfl (g_on 25 (by kernel_rfl) rfl) (r_eqlF rfl rfl (by omega)) ?_
    refine s_run rfl (g_on 25 (by kernel_rfl) rfl) (r_bneq rfl rfl rfl Try.underlying4) ?_
    refine s_run rfl rfl (r_pkF (v := .bool _) rfl rfl) ?_
    refine k_nil ?_
    refine c_norm ?_
    refine k_f rfl ?_
    refine k_skip ?_
    refine c_norm ?_
    refine k_seq ?_
    refine k_seq ?_
    refine k_rg ?_
    refine s_run rfl rfl (r_mv (v := .pointer _) rfl) ?_
    refine s_run rfl rfl (r_ptnilT rfl rfl Try.underlying26) ?_
    refine k_nil ?_
    refine c_norm ?_
    refine k_t rfl ?_
    refine k_seq ?_
    refine k_rg ?_
    refine s_run rfl rfl (r_as (v := .bool _) rfl) ?_
    refine k_nil ?_
    refine c_norm ?_
    refine k_ret ?_
    refine c_ret ?_
    refine fin1r (v := .bool _) rfl rfl ?_
    exact ⟨rfl, H.only.below⟩
end Go.Proofs.Ytmekhdclnhhhbaa
end
