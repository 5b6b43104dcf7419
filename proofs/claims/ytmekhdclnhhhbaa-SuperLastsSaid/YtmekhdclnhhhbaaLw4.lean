/- Calls at both, one behind the other; NvmPlays. -/
import Derived.Test.YtmekhdclnhhhbaaLw3
namespace Go.Proofs.Ytmekhdclnhhhbaa
open Go.RowKit
set_option linter.unusedSimpArgs false
set_option linter.unusedVariables false
theorem lDo (g : Geo) (d : Nv.D) (s : RefS) (m : Nat) (k a n v : Int) (A : Option Addr) (nc cc : Nat) (cs : List Int) (X : List Nat) (w : World) (hE : Ents (devL g d) w) (hr : RefOk w (ids (devL g d) ++ X) s d m) (hX : ∀ i ∈ X, i < w.heap.size) (hg : GOk g m) (hm : m ≤ 60000)
    (hz : Sees (Value.int .u8) w (ids (devL g d)) A cs) (hl : cs.length = nc) (hb : ∀ z ∈ cs, 0 ≤ z) (hnc : nc ≤ 1000000) (hn : -9223372036854775808 ≤ n ∧ n ≤ 9223372036854775807) :
    Calls Try.prog 33 [ptr g.p, .agg (refCells s d m).toArray, opV k a n v A nc cc].toArray w (DoPost g d m X (doD d m k a n v cs) w) := by
  unfold doD
  split
  · exact lDo0 g d s m k a n v A nc cc X w ‹_› hE hr hX hg hm
  split
  · exact lDo1 g d s m k a n v A nc cc X w ‹_› hE hr hX hg hm
  split
  · exact lDo2 g d s m k a n v A nc cc X w ‹_› hE hr hX hg hm
  split
  · exact lDo3 g d s m k a n v A nc cc X w ‹_› hE hr hX hg hm
  split
  · exact lDo4 g d s m k a n v A nc cc X w ‹_› hE hr hX hg hm
  split
  · exact lDo5 g d s m k a n v A nc cc X w ‹_› hE hr hX hg hm hn
  split
  · exact lDo6 g d s m k a n v A nc cc cs X w ‹_› hE hr hX hg hm hz hl hb hnc
  · exact lDo7 g d s m k a n v A nc cc X w ⟨‹_›, ‹_›, ‹_›, ‹_›, ‹_›, ‹_›, ‹_›⟩ hE hr hX hg hm
def playTo (d : Nv.D) (m : Nat) (ops : List OpS) : Nat → Nv.D
  | 0 => d
  | k + 1 => match ops[k]? with
    | some o => doD (playTo d m ops k) m o.k o.a o.n o.v o.cs
    | none => playTo d m ops k
def start (zs : List Int) : Nv.D := Nv.load (zs ++ List.replicate (8 * ((zs.length + 7) / 8) - zs.length) 0) ((zs.length + 7) / 8)
theorem ids3 {p8 p5 : Nat} {cs cs2 : List Value} {T T2 : TypeId} {A : List Ent} {i : Nat} (h : i ∈ ids [blk p8 cs T, grp A, blk p5 cs2 T2]) : i ∈ ids A ++ [p8, p5] := by
  simp only [ids_cons] at h
  rcases List.mem_append.1 h with h | h
  · simp [blk] at h; simp [h]
  · rcases List.mem_append.1 h with h | h
    · exact List.mem_append_left _ h
    · rcases List.mem_append.1 h with h | h
      · simp [blk] at h; simp [h]
      · simp [ids] at h
theorem lPlayed (A : Option Addr) (n c : Nat) (zs : List Int) (B : Option Addr) (q cq : Nat) (ops : List OpS) (w : World) (hz : Sees (Value.int .u64) w [] A zs) (lz : zs.length = n) (hn : n ≤ 200) (hs : Script w B ops) (hl : ops.length = q) (hq : q ≤ 60) (hnc : ∀ op ∈ ops, op.nc ≤ 100) :
    Calls Try.prog 36 [.slice A n c, .slice B q cq].toArray w fun e w' => ∃ g s, e = .returned (.tuple #[ptr g.p, .agg (refCells s (playTo (start zs) ((n + 7) / 8) ops q) ((n + 7) / 8)).toArray, .bool true]) ∧ Heap w [] (devL g (playTo (start zs) ((n + 7) / 8) ops q)) w' ∧ RefOk w' (ids (devL g (playTo (start zs) ((n + 7) / 8) ops q))) s (playTo (start zs) ((n + 7) / 8) ops q) ((n + 7) / 8) ∧ GOk g ((n + 7) / 8) := by
  have H := Heap.nil w
  have hLd := nLoad A n c zs
  have hRl := rLoad A n c zs
  have est : start zs = Nv.load (zs ++ List.replicate (8 * ((n + 7) / 8) - n) 0) ((n + 7) / 8) := by unfold start; rw [lz]
  rw [← est] at hLd hRl
  have hm : (n + 7) / 8 ≤ 60000 := by omega
  generalize (n + 7) / 8 = m at *
  generalize start zs = d0 at *
  refine k_in (N := 54) Try.func36 rfl rfl rfl ?_
  refine k_seq ?_
  refine k_rg ?_
  refine s_run rfl rfl (r_as (v := .pointer _) rfl) ?_
  refine s_al H rfl inf55 ?_
  intro p5 _ H'; clear H; have H := H'; clear H'
  refine s_run rfl rfl (r_as (v := .bool _) rfl) ?_
  refine k_nil ?_
  refine c_norm ?_
  refine k_seq ?_
  refine k_rg ?_
  refine s_run rfl rfl (r_mv (v := .slice _ _ _) rfl) ?_
  refine s_call rfl (hLd _ (hz.later H.only (by simp)) lz (by omega)) (ca16 rfl) ?_
  rintro e W1 ⟨g, rfl, hg, H'⟩
  refine ⟨_, rfl, ?_⟩
  have H := H.more (A := [grp _]) (grp_heap H'); clear H'; simp only [List.cons_append, List.nil_append] at H
  refine s_run rfl rfl (r_mv (v := .slice _ _ _) rfl) ?_
  refine s_call rfl (hRl _ _ (hz.later H.only (by simp)) lz (by omega) H.idlt) (ca44 rfl) ?_
  rintro e W1 ⟨s, rfl, H', hr'⟩
  refine ⟨_, rfl, ?_⟩
  have H := H.same H'.only; clear H'; simp only [refE]; have HB := H; clear H; have H := Heap.start HB.ents
  refine s_al H rfl inf55 ?_
  intro p8 _ H'; clear H; have H := H'; clear H'
  refine s_run rfl rfl (r_as (v := .pointer _) rfl) ?_
  refine s_sw H 0 rfl rfl rfl rfl rfl rfl rfl sz55 ?_
  intro _ H'; simp only [List.set_cons_zero, List.set_cons_succ, List.take_succ_cons, List.take_zero, List.drop_succ_cons, List.drop_zero, List.cons_append, List.nil_append, List.append_nil, List.length_cons, List.length_nil, Nat.reduceAdd] at H'; clear H; have H := H'; clear H'
  refine k_nil ?_
  refine c_norm ?_
  refine k_seq ?_
  refine k_seq ?_
  refine k_rg ?_
  refine s_run rfl rfl (r_mv (v := .pointer _) rfl) ?_
  refine s_run rfl rfl (r_ptnilF rfl rfl Try.underlying26) ?_
  refine s_run rfl rfl (r_mv (v := .bool _) rfl) ?_
  refine s_run rfl (g_on 17 (by kernel_rfl) rfl) (r_mv (v := .pointer _) rfl) ?_
  refine s_run rfl (g_on 17 (by kernel_rfl) rfl) (r_la H 0 rfl rfl rfl ag55 sz55) ?_
  refine s_call (g_on 17 (by kernel_rfl) rfl) (lSame g d0 s m _ (H.grp_ents 1 rfl) ((hr'.later H.only (fun _ h => h)).news (by simp)) hm) (ca56 rfl) ?_
  rintro e W1 ⟨rfl, H'⟩
  refine ⟨_, rfl, ?_⟩
  have H := H.same H'; clear H'
  refine s_run rfl (g_on 17 (by kernel_rfl) rfl) (r_notT rfl) ?_
  refine s_run rfl rfl (r_pkF (v := .bool _) rfl rfl) ?_
  refine k_nil ?_
  refine c_norm ?_
  refine k_f rfl ?_
  refine k_skip ?_
  refine c_norm ?_
  refine k_seq ?_
  refine k_seq ?_
  refine k_rg ?_
  refine s_run rfl rfl (r_as (v := .int _ _) rfl) ?_
  refine k_nil ?_
  refine c_norm ?_
  refine k_b ?_
  have hr1 := RefOk.at (X := []) (by simpa using hr') H
  have HW := HB.whole H
  clear H hr'
  refine k_loop (fun z f W => ∃ (k : Nat) (g : Geo) (s : RefS) (FA : List Nat), k ≤ q ∧ z = q - k ∧ GOk g m ∧ f 1 = .slice B q cq ∧ f 5 = ptr p5 ∧ f 7 = ptr g.p ∧ f 8 = ptr p8 ∧ f 9 = .int .i64 k ∧ Heap w [] [blk p8 (refCells s (playTo d0 m ops k) m) 55, grp (devL g (playTo d0 m ops k)), blk p5 nilDev 55] W ∧ RefOk W FA s (playTo d0 m ops k) m ∧ (∀ i ∈ ids [blk p8 (refCells s (playTo d0 m ops k) m) 55, grp (devL g (playTo d0 m ops k)), blk p5 nilDev 55], i ∈ FA)) q ⟨0, g, s, _, by omega, rfl, hg, rfl, rfl, rfl, rfl, rfl, HW, hr1, fun i hi => List.mem_append_right _ hi⟩ ?_
  clear HW hr1 hg
  rintro z f W ⟨k, g, s, FA, hk, rfl, hg, f1, f5, f7, f8, f9, H, hr, hFA⟩
  by_cases hlt : k < q
  · obtain ⟨b, o, rfl, hrd⟩ := hs.1 (by omega)
    obtain ⟨op, hop⟩ : ∃ op, ops[k]? = some op := ⟨_, List.getElem?_eq_getElem (by omega)⟩
    have hcell := hrd k op hop
    have hok := hs.2 op (List.mem_of_getElem? hop)
    have hnc1 := hnc op (List.mem_of_getElem? hop)
    have e : playTo d0 m ops (k + 1) = doD (playTo d0 m ops k) m op.k op.a op.n op.v op.cs := by rw [playTo, hop]
    generalize hx : playTo d0 m ops k = x at *
    obtain ⟨f, rfl⟩ := live5 f1 f5 f7 f8 f9
    clear f1 f5 f7 f8 f9
    have hX : ∀ W' : World, Only (ids [blk p8 (refCells s x m) 55, grp (devL g x), blk p5 nilDev 55]) W W' → RefOk W' (ids (devL g x) ++ [p8, p5]) s x m := fun W' hO => by
      refine (hr.later hO hFA).news (fun i hi => .inl (hFA i ?_))
      simp only [ids_cons]
      rcases List.mem_append.1 hi with h | h
      · exact List.mem_append_right _ (List.mem_append_left _ h)
      · rcases List.mem_cons.1 h with rfl | h
        · exact List.mem_append_left _ (by simp [blk])
        · rcases List.mem_cons.1 h with rfl | h
          · exact List.mem_append_right _ (List.mem_append_right _ (by simp [blk, ids]))
          · cases h
    refine k_seq ?_
    refine k_seq ?_
    refine k_rg ?_
    refine s_run rfl rfl (r_mv (v := .int _ _) rfl) ?_
    refine s_run rfl rfl (r_mv (v := .slice _ _ _) rfl) ?_
    refine s_run rfl rfl (r_len rfl Try.underlying46) ?_
    refine s_run rfl rfl (r_lssT rfl rfl (by omega)) ?_
    refine k_nil ?_
    refine c_norm ?_
    refine k_t rfl ?_
    refine k_skip ?_
    refine c_norm ?_
    refine k_seq ?_
    refine k_b ?_
    refine k_seq ?_
    refine k_rg ?_
    refine s_run rfl rfl (r_as (v := .bool _) rfl) ?_
    refine k_nil ?_
    refine c_norm ?_
    refine k_seq ?_
    refine k_cut (fun f' W' => ∃ (g' : Geo) (s' : RefS), f' 1 = .slice (some ⟨b, o, none⟩) q cq ∧ f' 5 = ptr p5 ∧ f' 7 = ptr g'.p ∧ f' 8 = ptr p8 ∧ f' 9 = .int .i64 k ∧ f' 10 = .bool true ∧ Heap w [] [blk p8 (refCells s' (doD x m op.k op.a op.n op.v op.cs) m) 55, grp (devL g' (doD x m op.k op.a op.n op.v op.cs)), blk p5 nilDev 55] W' ∧ RefOk W' (ids (devL g' (doD x m op.k op.a op.n op.v op.cs)) ++ [p8, p5]) s' (doD x m op.k op.a op.n op.v op.cs) m ∧ GOk g' m) ?_ ?_
    · refine k_trF mixed ?_; have H' := H.drew; clear H; have H := H'; clear H'
      refine t_take 0 rfl (by kernel_rfl) (by kernel_rfl) (by kernel_rfl) rfl (fun _ _ _ _ h => nomatch h.1) rfl (fun _ hS => r_mv (v := .pointer _) rfl) trivial ?_
      refine t_take 2 rfl (by kernel_rfl) (by kernel_rfl) (by kernel_rfl) rfl (fun _ _ _ _ h => nomatch h.1) rfl (fun _ hS => r_mv (v := .slice _ _ _) rfl) trivial ?_
      refine t_take 3 rfl (by kernel_rfl) (by kernel_rfl) (by kernel_rfl) rfl (fun _ _ _ _ h => nomatch h.1) rfl (fun _ hS => r_mv (v := .int _ _) rfl) trivial ?_
      refine t_take 4 rfl (by kernel_rfl) (by kernel_rfl) (by kernel_rfl) rfl (fun _ _ _ _ h => nomatch h.1) rfl (fun _ hS => r_ix rfl rfl rfl (by omega) Try.underlying46 sz51) trivial ?_
      refine t_up2 1 5 (by kernel_rfl) ?_ ?_
      · refine up_mk rfl ?_
        refine s_run rfl rfl (r_la H 0 rfl rfl rfl ag55 sz55) ?_
        refine k_nil ?_
        refine t_on trivial ?_
        refine t_up1 5 (by kernel_rfl) ?_
        refine up_mk rfl ?_
        refine s_run rfl rfl (r_lA (enc := fun v : Value => v) (zs := op.cells) (hcell.later H.only (by simp)) rfl rfl ag51 sz51) ?_
        refine k_nil ?_
        refine t_on trivial ?_
        refine t_up1 6 (by kernel_rfl) ?_
        refine up_mk rfl ?_
        refine s_call rfl (lDo g x s m op.k op.a op.n op.v op.A op.nc op.cc op.cs [p8, p5] _ (H.grp_ents 1 rfl) (hX _ (Only.of_below (Below.refl _ _).drew _)) (by intro i hi; have h3 := H.idlt i; rcases List.mem_cons.1 hi with rfl | hi; (exact h3 (by simp [ids, blk])); (rcases List.mem_cons.1 hi with rfl | hi; (exact h3 (by simp [ids, blk])); cases hi)) hg hm ((hok.see.news (G := ids (devL g x)) (fun i hi => H.own i (mem_ids.2 ⟨grp (devL g x), by simp, hi⟩))).later H.only (by simp)) hok.len hok.bd (by omega) hok.n1) (ca33 rfl) ?_
        rintro e W1 ⟨g', s2, rfl, H', hr', hg'⟩
        refine ⟨_, rfl, ?_⟩
        have H1 := H.grp_at 1 rfl H'; clear H H'; have H := H1; clear H1; simp only [List.set_cons_zero, List.set_cons_succ] at H; simp only [refE]; have HB := H; clear H; have H := Heap.start HB.ents
        refine k_nil ?_
        refine t_on trivial ?_
        refine t_take 7 rfl (by kernel_rfl) (by kernel_rfl) (by kernel_rfl) rfl (fun _ _ _ _ h => nomatch h.1) rfl (fun _ hS => r_mv (v := .tuple _) rfl) trivial ?_
        refine t_take 8 rfl (by kernel_rfl) (by kernel_rfl) (by kernel_rfl) rfl (fun _ _ _ _ h => nomatch h.1) rfl (fun _ hS => r_ext (v := .pointer _) rfl rfl) trivial ?_
        refine t_take 9 rfl (by kernel_rfl) (by kernel_rfl) (by kernel_rfl) rfl (fun _ _ _ _ h => nomatch h.1) rfl (fun _ hS => r_ext (v := .agg _) rfl rfl) trivial ?_
        refine t_take 10 rfl (by kernel_rfl) (by kernel_rfl) (by kernel_rfl) rfl (fun _ _ _ _ h => nomatch h.1) rfl (fun _ hS => r_ext (v := .bool _) rfl rfl) trivial ?_
        refine t_take 11 rfl (by kernel_rfl) (by kernel_rfl) (by kernel_rfl) rfl (fun _ _ _ _ h => nomatch h.1) rfl (fun _ hS => r_as (v := .pointer _) rfl) trivial ?_
        refine t_up1 12 (by kernel_rfl) ?_
        refine up_mk rfl ?_
        refine s_sw H 0 rfl rfl rfl rfl rfl rfl rfl sz55 ?_
        intro _ H'; simp only [List.set_cons_zero, List.set_cons_succ, List.take_succ_cons, List.take_zero, List.drop_succ_cons, List.drop_zero, List.cons_append, List.nil_append, List.append_nil, List.length_cons, List.length_nil, Nat.reduceAdd] at H'; clear H; have H := H'; clear H'
        refine k_nil ?_
        refine t_on trivial ?_
        refine t_take 13 rfl (by kernel_rfl) (by kernel_rfl) (by kernel_rfl) rfl (fun _ _ _ _ h => nomatch h.1) rfl (fun _ hS => r_as (v := .bool _) rfl) trivial ?_
        refine t_done (by kernel_rfl) ?_
        refine k_met ?_
        exact ⟨g', s2, rfl, rfl, rfl, rfl, rfl, rfl, HB.whole H, hr'.later H.only (fun i hi => ids3 hi), hg'⟩
      · refine up_mk rfl ?_
        refine s_run rfl rfl (r_lA (enc := fun v : Value => v) (zs := op.cells) (hcell.later H.only (by simp)) rfl rfl ag51 sz51) ?_
        refine k_nil ?_
        refine t_on trivial ?_
        refine t_up1 1 (by kernel_rfl) ?_
        refine up_mk rfl ?_
        refine s_run rfl rfl (r_la H 0 rfl rfl rfl ag55 sz55) ?_
        refine k_nil ?_
        refine t_on trivial ?_
        refine t_up1 6 (by kernel_rfl) ?_
        refine up_mk rfl ?_
        refine s_call rfl (lDo g x s m op.k op.a op.n op.v op.A op.nc op.cc op.cs [p8, p5] _ (H.grp_ents 1 rfl) (hX _ (Only.of_below (Below.refl _ _).drew _)) (by intro i hi; have h3 := H.idlt i; rcases List.mem_cons.1 hi with rfl | hi; (exact h3 (by simp [ids, blk])); (rcases List.mem_cons.1 hi with rfl | hi; (exact h3 (by simp [ids, blk])); cases hi)) hg hm ((hok.see.news (G := ids (devL g x)) (fun i hi => H.own i (mem_ids.2 ⟨grp (devL g x), by simp, hi⟩))).later H.only (by simp)) hok.len hok.bd (by omega) hok.n1) (ca33 rfl) ?_
        rintro e W1 ⟨g', s2, rfl, H', hr', hg'⟩
        refine ⟨_, rfl, ?_⟩
        have H1 := H.grp_at 1 rfl H'; clear H H'; have H := H1; clear H1; simp only [List.set_cons_zero, List.set_cons_succ] at H; simp only [refE]; have HB := H; clear H; have H := Heap.start HB.ents
        refine k_nil ?_
        refine t_on trivial ?_
        refine t_take 7 rfl (by kernel_rfl) (by kernel_rfl) (by kernel_rfl) rfl (fun _ _ _ _ h => nomatch h.1) rfl (fun _ hS => r_mv (v := .tuple _) rfl) trivial ?_
        refine t_take 8 rfl (by kernel_rfl) (by kernel_rfl) (by kernel_rfl) rfl (fun _ _ _ _ h => nomatch h.1) rfl (fun _ hS => r_ext (v := .pointer _) rfl rfl) trivial ?_
        refine t_take 9 rfl (by kernel_rfl) (by kernel_rfl) (by kernel_rfl) rfl (fun _ _ _ _ h => nomatch h.1) rfl (fun _ hS => r_ext (v := .agg _) rfl rfl) trivial ?_
        refine t_take 10 rfl (by kernel_rfl) (by kernel_rfl) (by kernel_rfl) rfl (fun _ _ _ _ h => nomatch h.1) rfl (fun _ hS => r_ext (v := .bool _) rfl rfl) trivial ?_
        refine t_take 11 rfl (by kernel_rfl) (by kernel_rfl) (by kernel_rfl) rfl (fun _ _ _ _ h => nomatch h.1) rfl (fun _ hS => r_as (v := .pointer _) rfl) trivial ?_
        refine t_up1 12 (by kernel_rfl) ?_
        refine up_mk rfl ?_
        refine s_sw H 0 rfl rfl rfl rfl rfl rfl rfl sz55 ?_
        intro _ H'; simp only [List.set_cons_zero, List.set_cons_succ, List.take_succ_cons, List.take_zero, List.drop_succ_cons, List.drop_zero, List.cons_append, List.nil_append, List.append_nil, List.length_cons, List.length_nil, Nat.reduceAdd] at H'; clear H; have H := H'; clear H'
        refine k_nil ?_
        refine t_on trivial ?_
        refine t_take 13 rfl (by kernel_rfl) (by kernel_rfl) (by kernel_rfl) rfl (fun _ _ _ _ h => nomatch h.1) rfl (fun _ hS => r_as (v := .bool _) rfl) trivial ?_
        refine t_done (by kernel_rfl) ?_
        refine k_met ?_
        exact ⟨g', s2, rfl, rfl, rfl, rfl, rfl, rfl, HB.whole H, hr'.later H.only (fun i hi => ids3 hi), hg'⟩
    clear H
    rintro f' W' ⟨g', s', f1, f5, f7, f8, f9, f10, H, hr', hg'⟩
    obtain ⟨f', rfl⟩ := live6 f1 f5 f7 f8 f9 f10
    clear f1 f5 f7 f8 f9 f10
    refine c_norm ?_
    refine k_seq ?_
    refine k_rg ?_
    refine s_run rfl rfl (r_mv (v := .bool _) rfl) ?_
    refine s_run rfl rfl (r_notT rfl) ?_
    refine s_run rfl rfl (r_mv (v := .bool _) rfl) ?_
    refine s_run rfl (g_on 44 (by kernel_rfl) rfl) (r_mv (v := .pointer _) rfl) ?_
    refine s_run rfl (g_on 44 (by kernel_rfl) rfl) (r_la H 0 rfl rfl rfl ag55 sz55) ?_
    refine s_call (g_on 44 (by kernel_rfl) rfl) (lSame g' _ s' m _ (H.grp_ents 1 rfl) (hr'.news (by simp)) hm) (ca56 rfl) ?_
    rintro e W1 ⟨rfl, H'⟩
    refine ⟨_, rfl, ?_⟩
    have H := H.same H'; have hr2 := hr'.later (G := []) H' (by simp); clear H'
    refine s_run rfl (g_on 44 (by kernel_rfl) rfl) (r_notT rfl) ?_
    refine s_run rfl rfl (r_pkF (v := .bool _) rfl rfl) ?_
    refine k_nil ?_
    refine c_norm ?_
    refine k_f rfl ?_
    refine k_skip ?_
    refine b_norm ?_
    refine c_norm ?_
    refine k_rg ?_
    refine s_run rfl rfl (r_mv (v := .int _ _) rfl) ?_
    refine s_run rfl rfl (r_add rfl rfl (wI (by omega))) ?_
    refine s_run rfl rfl (r_as (v := .int _ _) rfl) ?_
    refine k_nil ?_
    refine c_round ?_
    refine ⟨_, _, ?_, rfl, k + 1, g', s', ids (devL g' (doD x m op.k op.a op.n op.v op.cs)) ++ [p8, p5], by omega, rfl, hg', rfl, rfl, rfl, rfl, rfl, ?_, ?_, ?_⟩
    · omega
    · rw [e]; exact H
    · rw [e]; exact hr2
    · rw [e]; exact fun i hi => ids3 hi
  · obtain rfl : k = q := by omega
    obtain ⟨f, rfl⟩ := live5 f1 f5 f7 f8 f9
    clear f1 f5 f7 f8 f9
    have HB := H
    have hb2 := hr.later (G := ids [blk p8 (refCells s (playTo d0 m ops k) m) 55, grp (devL g (playTo d0 m ops k)), blk p5 nilDev 55]) (Only.refl _ _) hFA
    clear H
    have H := Heap.start HB.ents
    rw [refE] at H
    refine k_seq ?_
    refine k_seq ?_
    refine k_rg ?_
    refine s_run rfl rfl (r_mv (v := .int _ _) rfl) ?_
    refine s_run rfl rfl (r_mv (v := .slice _ _ _) rfl) ?_
    refine s_run rfl rfl (r_len rfl Try.underlying46) ?_
    refine s_run rfl rfl (r_lssF rfl rfl (by omega)) ?_
    refine k_nil ?_
    refine c_norm ?_
    refine k_f rfl ?_
    refine k_exit ?_
    refine c_exit ?_
    refine c_exit ?_
    refine b_hit ?_
    refine c_norm ?_
    refine k_seq ?_
    refine k_trF mixed ?_; have H' := H.drew; clear H; have H := H'; clear H'
    refine t_take 0 rfl (by kernel_rfl) (by kernel_rfl) (by kernel_rfl) rfl (fun _ _ _ _ h => h) rfl (fun _ hS => r_mv (v := .pointer _) rfl) trivial ?_
    refine t_take 2 rfl (by kernel_rfl) (by kernel_rfl) (by kernel_rfl) rfl (fun _ _ _ _ h => h) rfl (fun _ hS => r_as (v := .pointer _) rfl) trivial ?_
    refine t_up1 1 (by kernel_rfl) ?_
    refine up_mk rfl ?_
    refine s_run rfl rfl (r_la H 0 rfl rfl rfl ag55 sz55) ?_
    refine k_nil ?_
    refine t_on trivial ?_
    refine t_up1 3 (by kernel_rfl) ?_
    refine up_mk rfl ?_
    refine s_sw H 2 rfl rfl rfl rfl rfl rfl rfl sz55 ?_
    intro _ H'; simp only [List.set_cons_zero, List.set_cons_succ, List.take_succ_cons, List.take_zero, List.drop_succ_cons, List.drop_zero, List.cons_append, List.nil_append, List.append_nil, List.length_cons, List.length_nil, Nat.reduceAdd] at H'; clear H; have H := H'; clear H'
    refine k_nil ?_
    refine t_on trivial ?_
    refine t_take 4 rfl (by kernel_rfl) (by kernel_rfl) (by kernel_rfl) rfl (fun _ _ _ _ h => h) rfl (fun _ hS => r_as (v := .bool _) rfl) trivial ?_
    refine t_done (by kernel_rfl) ?_
    refine c_norm ?_
    refine k_ret ?_
    refine fx3r rfl (rv_t (v := .pointer _) rfl) (rv_a H 2 rfl rfl rfl ag55 sz55) (rv_t (v := .bool _) rfl) ?_
    have HW := HB.whole H
    exact ⟨g, s, rfl, grp_open (Heap.drops (A := [grp _]) (L := [_]) HW.drop), (hr.later H.only hFA).news (fun i hi => .inl (hFA i (mem_ids.2 ⟨grp (devL g (playTo d0 m ops k)), by simp, hi⟩))), hg⟩
end Go.Proofs.Ytmekhdclnhhhbaa
