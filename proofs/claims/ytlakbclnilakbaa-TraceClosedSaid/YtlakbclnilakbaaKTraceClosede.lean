/- Parts of the proof, one behind the other. -/
import Derived.Shelf.Sort.Plain
import Derived.Shelf.Slices.In.SortNone
import Derived.Sort.OwnSortedInts
import Derived.Deep.Slices
import Derived.Deep.Fields
import Derived.ChangeSame
import Derived.Test.YtlakbclnilakbaaKTraceClosedd
set_option linter.unusedSimpArgs false
set_option linter.unusedVariables false
set_option linter.unusedSectionVars false
section
namespace Go.Proofs.Ytlakbclnilakbaa
open Go.Sort Go.RowKit
set_option maxRecDepth 100000
def lays189_ren : Go.Shelf.Ren := ⟨fun | 189 => 55 | 125 => 84 | 257 => 83 | 128 => 109 | 129 => 110 | 294 => 100 | 295 => 101 | 296 => 102 | 297 => 103 | 298 => 104 | 299 => 105 | 216 => 106 | 300 => 107 | 301 => 108 | 328 => 128 | 329 => 129 | 330 => 130 | 331 => 131 | 332 => 132 | 215 => 133 | 343 => 150 | n => n, fun | 28 => 25 | 3 => 3 | 46 => 144 | 0 => 0 | 51 => 147 | 53 => 78 | 4 => 4 | 183 => 164 | 182 => 163 | 131 => 126 | 5 => 5 | 9 => 9 | 218 => 185 | 222 => 189 | 228 => 199 | 229 => 200 | n => n, fun | n => n⟩
theorem lays189 : Go.Proofs.Lays.n189 Try.prog lays189_ren := {
  mixed := by kernel_rfl
  f125 := Try.func84.trans (congrArg some (by kernel_rfl))
  f128 := Try.func109.trans (congrArg some (by kernel_rfl))
  f129 := Try.func110.trans (congrArg some (by kernel_rfl))
  f189 := Try.func55.trans (congrArg some (by kernel_rfl))
  f215 := Try.func133.trans (congrArg some (by kernel_rfl))
  f216 := Try.func106.trans (congrArg some (by kernel_rfl))
  f257 := Try.func83.trans (congrArg some (by kernel_rfl))
  f294 := Try.func100.trans (congrArg some (by kernel_rfl))
  f295 := Try.func101.trans (congrArg some (by kernel_rfl))
  f296 := Try.func102.trans (congrArg some (by kernel_rfl))
  f297 := Try.func103.trans (congrArg some (by kernel_rfl))
  f298 := Try.func104.trans (congrArg some (by kernel_rfl))
  f299 := Try.func105.trans (congrArg some (by kernel_rfl))
  f300 := Try.func107.trans (congrArg some (by kernel_rfl))
  f301 := Try.func108.trans (congrArg some (by kernel_rfl))
  f328 := Try.func128.trans (congrArg some (by kernel_rfl))
  f329 := Try.func129.trans (congrArg some (by kernel_rfl))
  f330 := Try.func130.trans (congrArg some (by kernel_rfl))
  f331 := Try.func131.trans (congrArg some (by kernel_rfl))
  f332 := Try.func132.trans (congrArg some (by kernel_rfl))
  f343 := Try.func150.trans (congrArg some (by kernel_rfl))
  t0 := Try.underlying0
  a0 := Try.isAgg0
  z0 := Try.sizeOf0
  v0 := Try.zeroValue0
  t3 := Try.underlying3
  a3 := Try.isAgg3
  z3 := Try.sizeOf3
  v3 := Try.zeroValue3
  t4 := Try.underlying4
  a4 := Try.isAgg4
  z4 := Try.sizeOf4
  v4 := Try.zeroValue4
  t5 := Try.underlying5
  a5 := Try.isAgg5
  z5 := Try.sizeOf5
  v5 := Try.zeroValue5
  t9 := Try.underlying9
  a9 := Try.isAgg9
  z9 := Try.sizeOf9
  v9 := Try.zeroValue9
  t28 := Try.underlying25
  a28 := Try.isAgg25
  z28 := Try.sizeOf25
  v28 := Try.zeroValue25
  t46 := Try.underlying144
  a46 := Try.isAgg144
  z46 := Try.sizeOf144
  v46 := Try.zeroValue144
  t51 := Try.underlying147
  a51 := Try.isAgg147
  z51 := Try.sizeOf147
  v51 := Try.zeroValue147
  t53 := Try.underlying78
  a53 := Try.isAgg78
  z53 := Try.sizeOf78
  v53 := Try.zeroValue78
  t131 := Try.underlying126
  a131 := Try.isAgg126
  z131 := Try.sizeOf126
  v131 := Try.zeroValue126
  t182 := Try.underlying163
  a182 := Try.isAgg163
  z182 := Try.sizeOf163
  v182 := Try.zeroValue163
  t183 := Try.underlying164
  a183 := Try.isAgg164
  z183 := Try.sizeOf164
  v183 := Try.zeroValue164
  t218 := Try.underlying185
  a218 := Try.isAgg185
  z218 := Try.sizeOf185
  v218 := Try.zeroValue185
  t222 := Try.underlying189
  a222 := Try.isAgg189
  z222 := Try.sizeOf189
  v222 := Try.zeroValue189
  t228 := Try.underlying199
  a228 := Try.isAgg199
  z228 := Try.sizeOf199
  v228 := Try.zeroValue199
  t229 := Try.underlying200
  a229 := Try.isAgg200
  z229 := Try.sizeOf200
  v229 := Try.zeroValue200 }
theorem gSort0 (blk off cap : Nat) (zs : List Int) (w : World) (hH : Holds (Value.int .i64) w blk off zs.toArray) (hblk : blk < w.heap.size) (hsz : zs.length < 4611686018427387904) :
  Calls Try.prog 55 #[.slice (some ⟨blk, off, none⟩) zs.length cap] w fun e w' =>
   e = .returned (.tuple #[]) ∧ ∃ n os, w' = grow (putRow (Value.int .i64) (Sort.ahead w n) blk off (zs.mergeSort fun x y => decide (x ≤ y)).toArray) os := Any.slices_Sort_int lays189 blk off cap zs w hH hblk hsz
def srt (l : List Int) : List Int := l.mergeSort fun x y => decide (x ≤ y)
theorem srt_perm (l : List Int) : (srt l).Perm l := List.mergeSort_perm _ _
theorem srt_len (l : List Int) : (srt l).length = l.length := (srt_perm l).length_eq
/-- a row of the call's own is sorted -/
theorem sorted_eq : ∀ {a b : List Int}, a.Perm b → a.Pairwise (· ≤ ·) → b.Pairwise (· ≤ ·) → a = b
 | [], b, h, _, _ => (List.nil_perm.1 h).symm
 | x :: a, [], h, _, _ => by have := h.length_eq; simp at this
 | x :: a, y :: b, h, ha, hb => by
  obtain ⟨a1, a2⟩ := List.pairwise_cons.1 ha
  obtain ⟨b1, b2⟩ := List.pairwise_cons.1 hb
  have e : x = y := by
   have h1 : x ∈ y :: b := h.mem_iff.1 (by simp)
   have h2 : y ∈ x :: a := h.mem_iff.2 (by simp)
   rcases List.mem_cons.1 h1 with h1 | h1
   ·exact h1
   ·rcases List.mem_cons.1 h2 with h2 | h2
    ·exact h2.symm
    ·have := a1 y h2; have := b1 x h1; omega
  subst e
  rw [sorted_eq (List.Perm.cons_inv h) a2 b2]
theorem srt_sorted (l : List Int) : (srt l).Pairwise (· ≤ ·) := by
 have h := List.pairwise_mergeSort (le := fun x y : Int => decide (x ≤ y)) (fun a b c h1 h2 => by simp at *; omega) (fun a b => by simp; omega) l
 exact h.imp fun h => by simpa using h
theorem srt_eq {a b : List Int} (h : a.Perm b) : srt a = srt b := sorted_eq ((srt_perm a).trans (h.trans (srt_perm b).symm)) (srt_sorted a) (srt_sorted b)
theorem gSort (A : Option Addr) (n c : Nat) (zs : List Int) (T : TypeId) (w : World) (hE : Ents [ownN 1 (.slice A n c) n (zs.map (Value.int .i64)) T] w) (hn : n ≤ 1000000) :
  Calls Try.prog 55 [.slice A n c].toArray w fun e w' => e = .returned (.tuple #[]) ∧ Heap w (ids [ownN 1 (.slice A n c) n (zs.map (Value.int .i64)) T]) [ownN 1 (.slice A n c) n ((srt zs).map (Value.int .i64)) T] w' := by
 have H := Heap.start hE
 have ho := H.own_get 0 rfl
 have hl : zs.length = n := by have := ho.1; simpa using this
 rcases ho.2 with ⟨hv, h0⟩ | ⟨g, cap, cur, hv, _, hg, hnc, hcm, hcs, htk⟩
 ·injection hv with h1 h2 h3
  subst h1; subst h2; subst h3
  have hz : zs = [] := List.eq_nil_of_length_eq_zero hl
  subst hz
  refine (Any.slices_Sort_int_none lays189 none 0 w).mono ?_
  rintro e w' ⟨rfl, rfl⟩
  have e0 : srt [] = [] := by simp [srt]
  rw [e0]
  exact ⟨rfl, H⟩
 ·injection hv with h1 h2 h3
  subst h1; subst h3
  subst hl
  have htk' : cur.toList.take zs.length = zs.map (Value.int .i64) := by rw [Nat.mul_one] at htk; exact htk
  refine (gSort0 g 0 c zs w (holds_of_blockI hg htk') (arr_lt hg) (by omega)).mono ?_
  rintro e w' ⟨rfl, m, os, rfl⟩
  have hs := ownsRow_sortedI (w := w) (base := 0) (n := m) (e := T) (os := os) (ss := zs) (ts := srt zs) (srt_len zs) (Nat.zero_le _) hg hnc hcm hcs
  have hgr : w.grownBy (grow (putRow (Value.int .i64) (Sort.ahead w m) g 0 (srt zs).toArray) os) (some g) := grownBy_sortedI _
  refine ⟨rfl, H.at 0 rfl (F' := [g]) ⟨?_, by simp [ids, ownN, Value.ownBlock], by simp [ids, ownN, Value.ownBlock], ⟨hgr.os, hgr.tape, hgr.output, hgr.size, fun k hk hne => hgr.block k hk (fun e => hne (by injection e with e; rw [e]; simp))⟩⟩ (by simp [ownN, Value.ownBlock])⟩
  intro E hE
  rw [List.mem_singleton.1 hE]
  exact hs
end Go.Proofs.Ytlakbclnilakbaa
end

section
namespace Go.Proofs.Ytlakbclnilakbaa
open Go.RowKit
set_option maxRecDepth 100000
set_option maxHeartbeats 4000000
theorem Heap.oneE {w0 W : World} {F : List Nat} {L : List Ent} {E : Ent} (H : Heap w0 F L W) (k : Nat) (hk : L[k]? = some E) : Ents [E] W := Heap.part (A := [E]) (H.pick k hk)
theorem Ents.on {A B L : List Ent} {w W : World} (h : Ents [grp A, grp B] w) (H : Heap w (ids B) L W) : Ents (grp A :: L) W := by
 have hA := h.off H.only
 have hnd := h.2
 rw [ids_cons, ids_cons] at hnd
 obtain ⟨hn1, _, dis⟩ := List.nodup_append.1 hnd
 refine ⟨fun E hE => ?_, ?_⟩
 ·rcases List.mem_cons.1 hE with rfl | h1
  ·exact hA
  ·exact H.ok E h1
 ·rw [ids_cons, List.nodup_append]
  refine ⟨hn1, H.nd, fun i hi j hj e => ?_⟩
  subst e
  rcases H.own i hj with h1 | h1
  ·exact dis i hi i (List.mem_append_left _ h1) rfl
  ·have := (grp A).lt w (h.1 (grp A) (by simp)) i hi
   omega
theorem Ents.two {A B : Ent} {L : List Ent} {W : World} (h : Ents (A :: L) W) (k : Nat) (hk : L[k]? = some B) : Ents [A, B] W := by
 have h1 := Heap.start h
 have h2 := (h1.pick (k + 1) (by simpa using hk)).pick 1 rfl
 exact Heap.part (A := [A, B]) h2
theorem HSees.on {w W : World} {I K : List Nat} {L : List Ent} {A : Option Addr} {hs : List Ob.H3} (h : HSees w K A hs) (H : Heap w I L W) (hIK : ∀ i ∈ I, i ∈ K) : HSees W (K ++ ids L) A hs := fun h0 => by
 obtain ⟨b, o, e, hb, hr⟩ := h h0
 have hlt : b < w.heap.size := by
  obtain ⟨x, hx⟩ : ∃ x, hs[0]? = some x := ⟨_, List.getElem?_eq_getElem (by omega)⟩
  exact cell_lt (hr 0 x hx 0 _ rfl)
 refine ⟨b, o, e, fun hm => ?_, fun i x hi => (hr i x hi).later H.only (fun hm => hb (hIK b hm))⟩
 rcases List.mem_append.1 hm with h1 | h1
 ·exact hb h1
 ·rcases H.own b h1 with h2 | h2
  ·exact hb (hIK b h2)
  ·omega
theorem trLen {n : Nat} {c : List Int} {hs : List Ob.H3} {s : Tr.S} (h : Tr.Ok (Ob.pl n c hs) s) : s.op.length ≤ 512 * n ∧ s.seen.length ≤ 512 * n := by
 have hp : ∀ x ∈ s.seen, 0 ≤ x ∧ x < ((512 * n : Nat) : Int) := fun x hx => by
  have := Ob.pl_yes (h.pl x hx); omega
 exact ⟨Tr.nd_bound _ _ h.ondup (fun x hx => hp x (h.sub x hx)), Tr.nd_bound _ _ h.nd hp⟩
theorem trNew (g : Geo) (n : Nat) (A : Option Addr) (k c : Nat) (w : World) :
  Calls Try.prog 21 [ptr g.p, .agg [.int .i64 n].toArray, .slice A k c].toArray w fun e w' => ∃ p bs bb, e = .returned (ptr p) ∧ Heap w [] (trE g n A k c p bs bb none 0 Tr.s0) w' := by
 have H := Heap.nil w
 refine k_in (N := 14) Try.func21 rfl rfl rfl ?_
 refine k_sg ?_
 refine s_box H rfl rfl ?_
 intro p4 _ H'; clear H; have H := H'; clear H'
 refine s_run rfl rfl (rap rfl) ?_
 refine k_nc ?_
 refine k_sg ?_
 refine s_run rfl rfl (rmp rfl) ?_
 refine s_run rfl rfl (r_la H 0 rfl rfl rfl ag48 sz48) ?_
 refine s_run rfl rfl (rms rfl) ?_
 refine s_mm kT Value.bool H rfl ?_
 intro b1 _ H'; clear H; have H := H'; clear H'
 refine s_mm kE (Value.int .i64) H rfl ?_
 intro b2 _ H'; clear H; have H := H'; clear H'
 refine s_run rfl rfl (r_bd (bd110_0_1_2_3_5 _ _ _ _ _ _ _) rfl) ?_
 refine s_box H rfl rfl ?_
 intro p13 _ H'; clear H; have H := H'; clear H'
 refine s_run rfl rfl (rap rfl) ?_
 refine k_nc ?_
 refine k_ret ?_
 refine fin1r (v := .pointer _) rfl rfl ?_
 replace H := H.own_nil 1 3
 exact ⟨p13, b1, b2, rfl, Heap.subl H [1, 3, 0, 2] rfl rfl⟩
section
variable {g : Geo} {d : Nv.D} {n k c p bs bb oc : Nat} {A OA : Option Addr} {hs : List Ob.H3} {s : Tr.S} {w : World} {K : List Nat}
theorem trRoot (hE : Ents [grp (devL g d), grp (trE g n A k c p bs bb OA oc s)] w) (hw : Ob.W64 d.cache) (hl : d.cache.length ≤ 1000000000) (hS : HSees w (ids (trE g n A k c p bs bb OA oc s)) A hs) (hk : hs.length = k) (hk2 : k ≤ 1000000) (hW : hsW hs) (hn : n ≤ 1900) (hok : Tr.Ok (Ob.pl n d.cache hs) s) (a : Int) (ha : i64ok a) :
  Calls Try.prog 22 [ptr p, .int .i64 a].toArray w fun e w' => e = .returned (.int .i64 (Tr.code (Ob.pl n d.cache hs) s a)) ∧ ∃ OA' oc', Heap w (ids (trE g n A k c p bs bb OA oc s)) (trE g n A k c p bs bb OA' oc' (Tr.reach (Ob.pl n d.cache hs) s (-1, 0) a)) w' := by
 have hln := trLen hok
 have hR := trReach hE hw hl hS hk hk2 hW (by omega) (by omega) (-1) 0 a ⟨by omega, by omega⟩ ⟨by omega, by omega⟩ ha
 have H := grp_start hE.snd
 generalize hI : ids (trE g n A k c p bs bb OA oc s) = I at *
 refine k_in (N := 9) Try.func22 rfl rfl rfl ?_
 refine k_sg ?_
 refine s_run rfl rfl (rai rfl) ?_
 refine k_nc ?_
 refine k_sg ?_
 refine s_run rfl rfl (rmp rfl) ?_
 refine s_run rfl rfl (r_bd (bd113_0 _) rfl) ?_
 refine s_run rfl rfl (rmi rfl) ?_
 refine s_call rfl (hR) (ca61 rfl) ?_
 rintro e W1 ⟨rfl, OA', oc', H'⟩
 refine ⟨_, rfl, ?_⟩
 rw [← hI] at H'; have H := H.grp_at 0 rfl H'; clear H'; simp only [List.set_cons_zero] at H
 refine s_run rfl rfl (rai rfl) ?_
 refine k_nc ?_
 refine k_ret ?_
 refine fin1r (v := .int _ _) rfl rfl ?_
 exact ⟨rfl, OA', oc', grp_open H⟩
theorem trStep0 (hE : Ents (trE g n A k c p bs bb OA oc s) w) (h0 : s.op = []) :
  Calls Try.prog 26 [ptr p].toArray w fun e w' => e = .returned (.bool false) ∧ Only [] w w' := by
 have HR := Heap.start hE
 have H := Heap.nil w
 unfold trE at HR
 rw [h0, List.length_nil] at HR
 refine k_in (N := 63) Try.func26 rfl rfl rfl ?_
 refine k_sg ?_
 refine s_run rfl rfl (rab rfl) ?_
 refine k_nc ?_
 refine k_seq ?_
 refine k_sg ?_
 refine s_run rfl rfl (rmp rfl) ?_
 refine s_run rfl rfl (r_nc rfl) ?_
 refine s_run rfl rfl (r_fa0 rfl fo110_4) ?_
 refine s_run rfl rfl (r_lo (HR.same H.only) 0 rfl rfl rfl ag25) ?_
 refine s_run rfl rfl (r_len rfl Try.underlying25) ?_
 refine s_run rfl rfl (r_eqlT rfl rfl (by omega)) ?_
 refine k_nc ?_
 refine k_t rfl ?_
 refine k_sg ?_
 refine s_run rfl rfl (rab rfl) ?_
 refine k_nc ?_
 refine k_ret ?_
 refine c_ret ?_
 refine fin1r (v := .bool _) rfl rfl ?_
 exact ⟨rfl, H.only⟩
theorem trStep (hE : Ents [grp (devL g d), grp (trE g n A k c p bs bb OA oc s)] w) (hw : Ob.W64 d.cache) (hl : d.cache.length ≤ 1000000000) (hS : HSees w K A hs) (hIK : ∀ i ∈ ids (trE g n A k c p bs bb OA oc s), i ∈ K) (hk : hs.length = k) (hk2 : k ≤ 1000000) (hW : hsW hs) (hn : n ≤ 1900) (hok : Tr.Ok (Ob.pl n d.cache hs) s) (h0 : s.op ≠ []) :
  Calls Try.prog 26 [ptr p].toArray w fun e w' => e = .returned (.bool true) ∧ ∃ OA' oc', Heap w (ids (trE g n A k c p bs bb OA oc s)) (trE g n A k c p bs bb OA' oc' (Tr.step (Ob.pl n d.cache hs) (Ob.ptrs d.cache) s)) w' := by
 have hDv := fun {L : List Ent} {W : World} (H : Heap w (ids (trE g n A k c p bs bb OA oc s)) L W) => hE.on H
 have hS2 := fun {L : List Ent} {W : World} (H : Heap w (ids (trE g n A k c p bs bb OA oc s)) L W) => hS.on H hIK
 have hDO := fun {W : World} (h : Only (ids (trE g n A k c p bs bb OA oc s)) w W) => hE.off h
 have H := Heap.start hE.snd
 have hln := trLen hok
 generalize hI : ids (trE g n A k c p bs bb OA oc s) = I at *
 have hpos := List.length_pos_iff.2 h0
 obtain ⟨y, hy⟩ : ∃ y, s.op[s.op.length - 1]? = some y := ⟨_, List.getElem?_eq_getElem (by omega)⟩
 have hyt : Tr.top s = y := by unfold Tr.top; rw [List.getD_eq_getElem?_getD, hy]; rfl
 have hyp := Ob.pl_yes (hok.pl y (hok.sub y (List.mem_of_getElem? hy)))
 have hPt := fun {W : World} (h : Only I w W) => obPtrs (hDO h) hw hl y hyp.2.2
 have hpb := Ob.ptrs_bd hw y
 unfold Tr.step
 rw [hyt]
 generalize hPL : Ob.ptrs d.cache y = l at *
 have hll : l.length ≤ 63 := by
  rw [← hPL]; unfold Ob.ptrs; rw [Ob.ptrsTo_len]; have := Ob.hp_bd hw y; omega
 unfold trE at H
 cases OA with
 | none =>
  exfalso
  obtain ⟨q, hq⟩ := H.own_some 2 rfl (by omega)
  cases hq
 | some oa =>
 obtain ⟨q, hq⟩ := H.own_some 2 rfl (by omega)
 injection hq with hq
 subst hq
 have hcap := own_cap H 2 rfl
 refine k_in (N := 63) Try.func26 rfl rfl rfl ?_
 refine k_sg ?_
 refine s_run rfl rfl (rab rfl) ?_
 refine k_nc ?_
 refine k_seq ?_
 refine k_sg ?_
 refine s_run rfl rfl (rmp rfl) ?_
 refine s_run rfl rfl (r_nc rfl) ?_
 refine s_run rfl rfl (r_fa0 rfl fo110_4) ?_
 refine s_run rfl rfl (r_lo H 0 rfl rfl rfl ag25) ?_
 refine s_run rfl rfl (r_len rfl Try.underlying25) ?_
 refine s_run rfl rfl (r_eqlF rfl rfl (by omega)) ?_
 refine k_nc ?_
 refine k_f rfl ?_
 refine k_skip ?_
 refine c_norm ?_
 refine k_seq ?_
 refine k_q mixed (by kernel_rfl) H ?_
 refine q_run rfl rfl (fun _ H => r_mv (v := .pointer _) rfl) ?_
 refine q_run rfl rfl (fun _ H => r_nc rfl) ?_
 refine q_run rfl rfl (fun _ H => r_fa0 rfl fo110_4) ?_
 refine q_run rfl rfl (fun _ H => r_lo H 0 rfl rfl rfl ag25) ?_
 refine q_run rfl rfl (fun _ H => r_mv (v := .pointer _) rfl) ?_
 refine q_run rfl rfl (fun _ H => r_nc rfl) ?_
 refine q_run rfl rfl (fun _ H => r_fa0 rfl fo110_4) ?_
 refine q_run rfl rfl (fun _ H => r_lo H 0 rfl rfl rfl ag25) ?_
 refine q_run rfl rfl (fun _ H => r_len rfl Try.underlying25) ?_
 refine q_run rfl rfl (fun _ H => r_sub rfl rfl (wI (by omega))) ?_
 refine q_run rfl rfl (fun _ H => r_ix1 (i := (s.op.length - 1)) rfl rfl (by omega) (by omega) Try.underlying25 sz3) ?_
 refine q_run rfl rfl (fun _ H => r_ow H 2 rfl rfl hy ag3) ?_
 refine q_run rfl rfl (fun _ H => r_as (v := .int _ _) rfl) ?_
 refine q_nil ?_
 intro _ H'; clear H; have H := H'; clear H'
 refine c_norm ?_
 refine k_seq ?_
 refine k_qt 14 mixed (by kernel_rfl) H rfl rfl ?_
 refine q_run rfl rfl (fun _ H => r_mv (v := .pointer _) rfl) ?_
 refine q_run rfl rfl (fun _ H => r_mv (v := .pointer _) rfl) ?_
 refine q_run rfl rfl (fun _ H => r_nc rfl) ?_
 refine q_run rfl rfl (fun _ H => r_fa0 rfl fo110_4) ?_
 refine q_run rfl rfl (fun _ H => r_lo H 0 rfl rfl rfl ag25) ?_
 refine q_run rfl rfl (fun _ H => r_mv (v := .pointer _) rfl) ?_
 refine q_run rfl rfl (fun _ H => r_nc rfl) ?_
 refine q_run rfl rfl (fun _ H => r_fa0 rfl fo110_4) ?_
 refine q_run rfl rfl (fun _ H => r_lo H 0 rfl rfl rfl ag25) ?_
 refine q_run rfl rfl (fun _ H => r_len rfl Try.underlying25) ?_
 refine q_run rfl rfl (fun _ H => r_sub rfl rfl (wI (by omega))) ?_
 refine q_run rfl rfl (fun _ H => r_shiA (j := s.op.length - 1) rfl rfl (by omega) (by omega) Try.underlying25 sz3) ?_
 refine q_run rfl rfl (fun _ H => r_nc rfl) ?_
 refine q_run rfl rfl (fun _ H => r_fa0 rfl fo110_4) ?_
 refine q_nil ?_
 intro _ H'; clear H; have H := H'; clear H'
 refine s_st (u := .slice _ _ _) H 0 rfl rfl rfl rfl rfl rfl sz25 ?_
 clear H; intro _ H; simp only [jA, jB, jC, jD, jE, jF, jG, jH, jI, jJ, jK, Nat.reduceAdd] at H
 refine k_nc ?_
 refine k_seq ?_
 replace H := H.shrink2 (m := s.op.length - 1) 2 rfl (by omega)
 rw [Nat.mul_one, ← List.map_take] at H
 have hpl : (s.op.take (s.op.length - 1)).length = s.op.length - 1 := by rw [List.length_take]; omega
 replace H : Heap w I [grp (trE g n A k c p bs bb (some ⟨q, 0, none⟩) oc (Tr.pop s))] _ := grp_heap (by
  unfold trE Tr.pop
  simp only [hpl]
  exact H)
 refine k_rg ?_
 refine s_run rfl rfl (rmp rfl) ?_
 refine s_run rfl rfl (r_nc rfl) ?_
 refine s_run rfl rfl (r_fa0 rfl fo110_0) ?_
 refine s_run rfl rfl (r_lo (Heap.start (H.grp_ents 0 rfl)) 0 rfl rfl rfl ag46) ?_
 refine s_run rfl rfl (rmi rfl) ?_
 refine s_call rfl (hPt H.only) (ca62 rfl) ?_
 rintro e W1 ⟨QA, qc, rfl, H'⟩
 refine ⟨_, rfl, ?_⟩
 have H := H.more H'; clear H'; simp only [List.cons_append, List.nil_append] at H
 refine s_run rfl rfl (rmt rfl) ?_
 refine s_run rfl rfl (r_ext (v := .slice _ _ _) rfl rfl) ?_
 refine s_run rfl rfl (r_ext (v := .int _ _) rfl rfl) ?_
 refine s_run rfl rfl (ras rfl) ?_
 refine s_run rfl rfl (rai rfl) ?_
 refine k_nc ?_
 refine k_seq ?_
 refine k_sg ?_
 refine s_run rfl rfl (rms rfl) ?_
 refine s_run rfl rfl (r_len rfl Try.underlying25) ?_
 refine s_run rfl rfl (rmi rfl) ?_
 refine k_nc ?_
 refine k_b ?_
 refine k_loop (fun z f W => ∃ (i : Nat) (OA : Option Addr) (oc : Nat), i ≤ l.length ∧ z = l.length - i ∧ f 0 = ptr p ∧ f 3 = .int .i64 y ∧ f 49 = .slice QA l.length qc ∧ f 50 = .int .i64 l.length ∧ f 51 = .int .i64 i ∧ Heap w I [ownN 1 (.slice QA l.length qc) l.length (l.map (Value.int .i64)) 3, grp (trE g n A k c p bs bb OA oc (Tr.along (Ob.pl n d.cache hs) (Tr.pop s) y l i))] W) l.length ⟨0, _, oc, by omega, rfl, rfl, rfl, rfl, rfl, rfl, H⟩ ?_
 clear H
 rintro z f W ⟨i, OA, oc2, hi, rfl, f0, f3, f49, f50, f51, H⟩
 obtain ⟨f, rfl⟩ := live5 f0 f3 f49 f50 f51
 clear f0 f3 f49 f50 f51
 have hok2 := hok.pop.along y l i
 by_cases hlt : i < l.length
 ·obtain ⟨x, hx⟩ : ∃ x, l[i]? = some x := ⟨_, List.getElem?_eq_getElem (by omega)⟩
  have hxb := hpb x (List.mem_of_getElem? hx)
  have hxd : l.getD i 0 = x := by rw [List.getD_eq_getElem?_getD, hx]; rfl
  have hln2 := trLen hok2
  obtain ⟨r, rfl⟩ := H.own_some 0 rfl (by omega)
  have hR := fun {W : World} (H : Heap w I [ownN 1 (.slice (some ⟨r, 0, none⟩) l.length qc) l.length (l.map (Value.int .i64)) 3, grp (trE g n A k c p bs bb OA oc2 (Tr.along (Ob.pl n d.cache hs) (Tr.pop s) y l i))] W) => trReach ((hDv H).two 1 rfl) hw hl ((hS2 H).mono (fun j hj => by rw [ids_cons, ids_cons]; exact List.mem_append_right _ (List.mem_append_right _ (List.mem_append_left _ hj)))) hk hk2 hW (by omega) (by omega) y i x ⟨by omega, by omega⟩ ⟨by omega, by omega⟩ ⟨by omega, by omega⟩
  refine k_sg ?_
  refine s_run rfl rfl (r_lssT rfl rfl (by omega)) ?_
  refine k_nc ?_
  refine k_seq ?_
  refine k_t rfl ?_
  refine k_skip ?_
  refine c_norm ?_
  refine k_seq ?_
  refine k_b ?_
  refine k_sg ?_
  refine s_run rfl rfl (rmi rfl) ?_
  refine s_run rfl rfl (r_ix1 rfl rfl rfl (by omega) Try.underlying25 sz3) ?_
  refine s_run rfl rfl (r_ow H 0 rfl rfl hx ag3) ?_
  refine s_run rfl rfl (rai rfl) ?_
  refine s_run rfl rfl (rai rfl) ?_
  refine k_nc ?_
  refine k_rg ?_
  refine s_run rfl rfl (rmp rfl) ?_
  refine s_run rfl rfl (rmi rfl) ?_
  refine s_run rfl rfl (rmi rfl) ?_
  refine s_run rfl rfl (r_bd (bd113_0_1 _ _) rfl) ?_
  refine s_run rfl rfl (rmi rfl) ?_
  refine s_call rfl (hR H) (ca61 rfl) ?_
  rintro e W1 ⟨rfl, OA', oc', H'⟩
  refine ⟨_, rfl, ?_⟩
  have H := H.grp_at 1 rfl H'; clear H'; simp only [List.set_cons_zero, List.set_cons_succ] at H
  refine k_nil ?_
  refine b_norm ?_
  refine c_norm ?_
  refine k_rg ?_
  refine s_run rfl rfl (r_add rfl rfl (wI (by omega))) ?_
  refine s_run rfl rfl (rmi rfl) ?_
  refine k_nil ?_
  refine c_round ?_
  refine ⟨_, _, ?_, rfl, i + 1, OA', oc', by omega, rfl, rfl, rfl, rfl, rfl, rfl, ?_⟩
  ·omega
  ·rw [Tr.along, hxd]; exact H
 ·obtain rfl : i = l.length := by omega
  refine k_sg ?_
  refine s_run rfl rfl (r_lssF rfl rfl (by omega)) ?_
  refine k_nc ?_
  refine k_seq ?_
  refine k_f rfl ?_
  refine k_exit ?_
  refine c_exit ?_
  refine c_exit ?_
  refine b_hit ?_
  refine c_norm ?_
  refine k_sg ?_
  refine s_run rfl rfl (rab rfl) ?_
  refine k_nc ?_
  refine k_ret ?_
  refine fin1r (v := .bool _) rfl rfl ?_
  exact ⟨rfl, OA, oc2, grp_open H.drop⟩
end
end Go.Proofs.Ytlakbclnilakbaa
end

section
namespace Go.Proofs.Ytlakbclnilakbaa.Tr
theorem reach_badE (P : Int → Bool) (s : S) (e : Int × Int) (a : Int) (h : (reach P s e a).bad = []) : s.bad = [] := ((reach_bad P s e a).2.1 h).1
theorem along_badE (P : Int → Bool) (s : S) (y : Int) (l : List Int) : ∀ i, (along P s y l i).bad = [] → s.bad = []
 | 0, h => h
 | i + 1, h => along_badE P s y l i (reach_badE _ _ _ _ h)
theorem steps_badE (P : Int → Bool) (pt : Int → List Int) (s : S) : ∀ k, (steps P pt s k).bad = [] → s.bad = []
 | 0, h => h
 | k + 1, h => steps_badE P pt s k (along_badE P (pop (steps P pt s k)) _ _ _ h)
theorem code_bad (P : Int → Bool) (s : S) (e : Int × Int) (a : Int) (h : (reach P s e a).bad = []) : code P s a = 0 := by
 unfold reach at h; unfold code
 split
 ·rfl
 ·rename_i h1
  rw [if_neg h1] at h
  split
  ·rfl
  ·rename_i h2
   rw [if_neg h2] at h
   have h3 : mput s.bad e a = [] := h
   have := (mput_len s.bad e a).2
   rw [h3] at this; simp at this
/-- two ends of the same steps are one -/
theorem ends_eq {P : Int → Bool} {pt : Int → List Int} {s : S} {N M : Nat} (h1 : ∀ j, j < N → (steps P pt s j).op ≠ []) (h2 : (steps P pt s N).op = []) (h3 : ∀ j, j < M → (steps P pt s j).op ≠ []) (h4 : (steps P pt s M).op = []) : N = M := by
 rcases Nat.lt_trichotomy N M with h | h | h
 ·exact absurd h2 (h3 N h)
 ·exact h
 ·exact absurd h4 (h1 M h)
end Go.Proofs.Ytlakbclnilakbaa.Tr
end

section
namespace Go.Proofs.Ytlakbclnilakbaa
open Go.RowKit
theorem mleft_set_len {α β : Type} {lb : List ((α × β) × Bool)} {j : Nat} {p : α × β} (h : lb[j]? = some (p, true)) : (mleft lb).length = (mleft (lb.set j (p, false))).length + 1 := by
 have := (mleft_set lb j p h).length_eq; simpa using this
theorem mset_fst {α β : Type} {lb : List ((α × β) × Bool)} {j : Nat} {p : α × β} (h : lb[j]? = some (p, true)) : (lb.set j (p, false)).map (·.1) = lb.map (·.1) := by
 rw [List.map_set]
 apply List.ext_getElem?
 intro i
 rw [List.getElem?_set]
 by_cases e : j = i
 ·subst e
  rw [if_pos rfl, List.getElem?_map, h]
  have := (List.getElem?_eq_some_iff.1 h).1
  rw [if_pos (by simpa using this)]; rfl
 ·rw [if_neg e]
theorem iter_start {α β : Type} (l : List (α × β)) : (l.map fun p => (p, true)).map (fun x : (α × β) × Bool => x.1) = l := by rw [List.map_map]; exact List.map_id' l
section
variable {P : Program} {n : Sz} {f : Nat → Value} {W w0 : World} {F : List Nat} {L : List Ent} {dst : Option Tmp} {ty : TypeId} {pos : String} {af : Array Edge} {g : Option (Nat × Bool)} {x : Operand} {t kt e : TypeId} {α β : Type} [DecidableEq α] {C : KC P kt α} {venc : β → Value} {b : Nat} {l : List (α × β)}
theorem r_lenM (H : Heap w0 F L W) (j : Nat) (hj : L[j]? = some (mp C venc b l)) (hx : ev n f x = .map (some b)) (h : P.underlying t = some (.map kt e)) : (execOp (ev n f) ⟨dst, .call ⟨.builtin .len, #[x], #[t]⟩, ty, pos, af, g⟩).run P W = .ok (.value (.int .i64 l.length)) W := by
 obtain ⟨es, clock, hb, hk⟩ := H.mp_get j hj
 have h2 : (Builtin.len_ #[t] ty #[.map (some b)]).run P W = .ok (.int .i64 l.length) W := by
  have hg : (getObj b).run P W = .ok (.map es clock) W := by simp [getObj, Sem.run, hb]
  simp [Builtin.len_, run_underlying h, hg, hk.len]; rfl
 have h3 : #[x].map (ev n f) = #[Value.map (some b)] := by simp [hx]
 simp only [execOp, resolve, invoke, builtin, h3, Sem.run_bind, Sem.run_pure, Result.andThen_ok, h2]
theorem r_neg {k : IntKind} {a c : Int} (hx : ev n f x = .int k a) (hr : k.wrap (0 - a) = c) : (execOp (ev n f) ⟨dst, .unOp .neg t x, ty, pos, af, g⟩).run P W = .ok (.value (.int k c)) W := by
 subst hr
 simp [execOp, hx, Op.unary, Op.intArith]
end
end Go.Proofs.Ytlakbclnilakbaa
end

section
namespace Go.Proofs.Ytlakbclnilakbaa
open Go.RowKit
set_option maxRecDepth 100000
set_option maxHeartbeats 4000000
section
variable {g : Geo} {d : Nv.D} {n k c p bs bb oc : Nat} {A OA : Option Addr} {hs : List Ob.H3} {s : Tr.S} {w : World} {K : List Nat}
theorem trRun (hE : Ents [grp (devL g d), grp (trE g n A k c p bs bb OA oc s)] w) (hw : Ob.W64 d.cache) (hl : d.cache.length ≤ 1000000000) (hS : HSees w K A hs) (hIK : ∀ i ∈ ids (trE g n A k c p bs bb OA oc s), i ∈ K) (hk : hs.length = k) (hk2 : k ≤ 1000000) (hW : hsW hs) (hn : n ≤ 1900) (hok : Tr.Ok (Ob.pl n d.cache hs) s) (hlen : s.seen.length = s.op.length + 0) :
    Calls Try.prog 24 [ptr p].toArray w fun e w' => ∃ (N : Nat) (OA' : Option Addr) (oc' : Nat), (∀ j, j < N → (Tr.steps (Ob.pl n d.cache hs) (Ob.ptrs d.cache) s j).op ≠ []) ∧ (Tr.steps (Ob.pl n d.cache hs) (Ob.ptrs d.cache) s N).op = [] ∧ e = .returned (.int .i64 (if (Tr.steps (Ob.pl n d.cache hs) (Ob.ptrs d.cache) s N).bad = [] then 0 else 22)) ∧ Heap w (ids (trE g n A k c p bs bb OA oc s)) (trE g n A k c p bs bb OA' oc' (Tr.steps (Ob.pl n d.cache hs) (Ob.ptrs d.cache) s N)) w' := by
  have hDv := fun {L : List Ent} {W : World} (H : Heap w (ids (trE g n A k c p bs bb OA oc s)) L W) => hE.on H
  have hS2 := fun {L : List Ent} {W : World} (H : Heap w (ids (trE g n A k c p bs bb OA oc s)) L W) => hS.on H hIK
  have H := grp_start hE.snd
  generalize hI : ids (trE g n A k c p bs bb OA oc s) = I at *
  refine k_in (N := 11) Try.func24 rfl rfl rfl ?_
  refine k_sg ?_
  refine s_run rfl rfl (rai rfl) ?_
  refine k_nc ?_
  refine k_seq ?_
  refine k_b ?_
  refine k_loop (fun z f W => ∃ (i : Nat) (OA : Option Addr) (oc : Nat), i ≤ 512 * n ∧ z = 512 * n - i ∧ (∀ j, j < i → (Tr.steps (Ob.pl n d.cache hs) (Ob.ptrs d.cache) s j).op ≠ []) ∧ f 0 = ptr p ∧ f 2 = .int .i64 0 ∧ Heap w I [grp (trE g n A k c p bs bb OA oc (Tr.steps (Ob.pl n d.cache hs) (Ob.ptrs d.cache) s i))] W) (512 * n) ⟨0, OA, oc, by omega, rfl, by omega, rfl, rfl, H⟩ ?_
  clear H
  rintro z f W ⟨i, OA, oc2, hi, rfl, hj, f0, f2, H⟩
  obtain ⟨f, rfl⟩ := live2 f0 f2
  clear f0 f2
  have hoki := hok.steps (pt := Ob.ptrs d.cache) i
  have hleni := Tr.steps_len (Ob.pl n d.cache hs) (Ob.ptrs d.cache) s hlen i hj
  have hlni := trLen hoki
  generalize hs2 : Tr.steps (Ob.pl n d.cache hs) (Ob.ptrs d.cache) s i = s2 at *
  by_cases h0 : s2.op = []
  · have hSt := fun {W : World} hE => trStep0 (g := g) (n := n) (k := k) (c := c) (p := p) (bs := bs) (bb := bb) (oc := oc2) (A := A) (OA := OA) (s := s2) (w := W) hE h0
    by_cases hb : s2.bad = []
    · have hbl : (s2.bad.length : Int) = 0 := by rw [hb]; rfl
      refine k_seq ?_
      refine k_sg ?_
      refine s_run rfl rfl (rmp rfl) ?_
      refine s_call rfl (hSt (H.grp_ents 0 rfl)) (ca26 rfl) ?_
      rintro e W1 ⟨rfl, H'⟩
      refine ⟨_, rfl, ?_⟩
      have H := H.same H'; clear H'
      refine k_nc ?_
      refine k_f rfl ?_
      refine k_exit ?_
      refine c_exit ?_
      refine c_exit ?_
      refine b_hit ?_
      refine c_norm ?_
      refine k_seq ?_
      refine k_sg ?_
      refine s_run rfl rfl (rmp rfl) ?_
      refine s_run rfl rfl (r_nc rfl) ?_
      refine s_run rfl rfl (r_fa0 rfl fo110_5) ?_
      refine s_run rfl rfl (r_lo (Heap.start (H.grp_ents 0 rfl)) 0 rfl rfl rfl ag108) ?_
      refine s_run rfl rfl (r_lenM (Heap.start (H.grp_ents 0 rfl)) 3 rfl rfl Try.underlying108) ?_
      refine s_run rfl rfl (r_gtrF rfl rfl (by omega)) ?_
      refine k_nc ?_
      refine k_f rfl ?_
      refine k_skip ?_
      refine c_norm ?_
      refine k_sg ?_
      refine s_run rfl rfl (rai rfl) ?_
      refine k_nc ?_
      refine k_ret ?_
      refine fin1r (v := .int _ _) rfl rfl ?_
      rw [← hs2] at H h0 hb
      exact ⟨i, OA, oc2, hj, h0, by rw [if_pos hb], grp_open H⟩
    · have hbl := List.length_pos_iff.2 hb
      refine k_seq ?_
      refine k_sg ?_
      refine s_run rfl rfl (rmp rfl) ?_
      refine s_call rfl (hSt (H.grp_ents 0 rfl)) (ca26 rfl) ?_
      rintro e W1 ⟨rfl, H'⟩
      refine ⟨_, rfl, ?_⟩
      have H := H.same H'; clear H'
      refine k_nc ?_
      refine k_f rfl ?_
      refine k_exit ?_
      refine c_exit ?_
      refine c_exit ?_
      refine b_hit ?_
      refine c_norm ?_
      refine k_seq ?_
      refine k_sg ?_
      refine s_run rfl rfl (rmp rfl) ?_
      refine s_run rfl rfl (r_nc rfl) ?_
      refine s_run rfl rfl (r_fa0 rfl fo110_5) ?_
      refine s_run rfl rfl (r_lo (Heap.start (H.grp_ents 0 rfl)) 0 rfl rfl rfl ag108) ?_
      refine s_run rfl rfl (r_lenM (Heap.start (H.grp_ents 0 rfl)) 3 rfl rfl Try.underlying108) ?_
      refine s_run rfl rfl (r_gtrT rfl rfl (by omega)) ?_
      refine k_nc ?_
      refine k_t rfl ?_
      refine k_sg ?_
      refine s_run rfl rfl (rai rfl) ?_
      refine k_nc ?_
      refine k_ret ?_
      refine c_ret ?_
      refine fin1r (v := .int _ _) rfl rfl ?_
      rw [← hs2] at H h0 hb
      exact ⟨i, OA, oc2, hj, h0, by rw [if_neg hb], grp_open H⟩
  · have hpos := List.length_pos_iff.2 h0
    have hSt := fun {W : World} (H : Heap w I [grp (trE g n A k c p bs bb OA oc2 s2)] W) => trStep ((hDv H).two 0 rfl) hw hl (hS2 H) (fun j hj => List.mem_append_right _ (by rw [ids_cons]; exact List.mem_append_left _ hj)) hk hk2 hW hn hoki h0
    refine k_seq ?_
    refine k_sg ?_
    refine s_run rfl rfl (rmp rfl) ?_
    refine s_call rfl (hSt H) (ca26 rfl) ?_
    rintro e W1 ⟨rfl, OA', oc', H'⟩
    refine ⟨_, rfl, ?_⟩
    have H := H.grp_at 0 rfl H'; clear H'; simp only [List.set_cons_zero] at H
    refine k_nc ?_
    refine k_t rfl ?_
    refine k_skip ?_
    refine c_norm ?_
    refine k_b ?_
    refine k_skip ?_
    refine b_norm ?_
    refine c_round ?_
    refine ⟨_, _, ?_, rfl, i + 1, OA', oc', by omega, rfl, fun j hji => ?_, rfl, rfl, ?_⟩
    · omega
    · by_cases e : j = i
      · subst e; rw [hs2]; exact h0
      · exact hj j (by omega)
    · rw [Tr.steps, hs2]; exact H
theorem trSeen (hE : Ents (trE g n A k c p bs bb OA oc s) w) (hm : s.seen.length ≤ 1000000) :
    Calls Try.prog 25 [ptr p].toArray w fun e w' => ∃ (A' : Option Addr) (c' : Nat), e = .returned (.slice A' s.seen.length c') ∧ Heap w [] [ownN 1 (.slice A' s.seen.length c') s.seen.length ((srt s.seen).map (Value.int .i64)) 3] w' := by
  have HR := Heap.start hE
  obtain ⟨es, clock, M⟩ := hE.map_at 1 rfl
  have H := Heap.nil w
  unfold trE at HR
  have hfst : (seenM s.seen).map Prod.fst = s.seen := by unfold seenM; rw [List.map_map]; exact List.map_id _
  refine k_in (N := 21) Try.func25 rfl rfl rfl ?_
  refine k_sg ?_
  refine s_run rfl rfl (ras rfl) ?_
  refine k_nc ?_
  refine k_sg ?_
  refine s_run rfl rfl (ras rfl) ?_
  refine k_nc ?_
  refine k_seq ?_
  refine k_sg ?_
  refine s_run rfl rfl (rmp rfl) ?_
  refine s_run rfl rfl (r_nc rfl) ?_
  refine s_run rfl rfl (r_fa0 rfl fo110_3) ?_
  refine s_run rfl rfl (r_lo (HR.same H.only) 0 rfl rfl rfl ag107) ?_
  refine s_rmR M H rfl rfl Try.underlying107 ?_
  intro r _ H'; clear H; have H := H'; clear H'
  refine k_nc ?_
  refine k_b ?_
  replace H := H.own_nil 1 3
  refine k_loop (fun z f W => ∃ (lb : List ((Int × Bool) × Bool)) (cur : Option (Int × Bool)) (OA : Option Addr) (co : Nat) (out : List Int), z = (mleft lb).length ∧ lb.map (·.1) = seenM s.seen ∧ (out ++ (mleft lb).map Prod.fst).Perm s.seen ∧ f 3 = .slice OA out.length co ∧ f 9 = ptr r ∧ Heap w [] [ownN 1 (.slice OA out.length co) out.length (out.map (Value.int .i64)) 3, mri kT Value.bool es clock bs r lb cur] W) _ ⟨(seenM s.seen).map fun p => (p, true), none, none, 0, [], rfl, iter_start _, by rw [mleft_all, hfst]; exact List.Perm.refl _, rfl, rfl, H⟩ ?_
  clear H
  rintro z f W ⟨lb, cur, OA, co, out, rfl, hlb, hpm, f3, f9, H⟩
  have hol : out.length ≤ 1000000 := by have := hpm.length_eq; simp at this; omega
  obtain ⟨f, rfl⟩ := live2 f3 f9
  clear f3 f9
  by_cases hl : mleft lb = []
  · refine k_sg ?_
    refine s_nx0R M H 1 (hl) rfl rfl rfl ?_
    refine s_run rfl rfl (r_ext (v := .bool _) rfl rfl) ?_
    refine k_nc ?_
    refine k_seq ?_
    refine k_f rfl ?_
    refine k_exit ?_
    refine c_exit ?_
    refine c_exit ?_
    refine b_hit ?_
    refine c_norm ?_
    refine k_seq ?_
    rw [hl, List.map_nil, List.append_nil] at hpm
    have hlen : out.length = s.seen.length := by have := hpm.length_eq; simpa using this
    have hS := fun {W : World} hE => gSort OA out.length co out 3 W hE (by omega)
    refine k_rg ?_
    refine s_run rfl rfl (rms rfl) ?_
    refine s_call rfl (hS (H.oneE 0 rfl)) (ca55 rfl) ?_
    rintro e W1 ⟨rfl, H'⟩
    refine ⟨_, rfl, ?_⟩
    have H := H.at 0 rfl H' (fun i hi => by simpa [ids] using hi); clear H'
    refine k_nc ?_
    refine k_sg ?_
    refine s_run rfl rfl (rms rfl) ?_
    refine s_run rfl rfl (ras rfl) ?_
    refine k_nc ?_
    refine k_ret ?_
    refine fin1r (v := .slice _ _ _) rfl rfl ?_
    rw [srt_eq hpm] at H
    rw [hlen] at H
    exact ⟨OA, co, by rw [hlen], (H : Heap w [] ([_] ++ [_]) _).drops⟩
  · refine k_sg ?_
    refine s_nx1R M H 1 (hl) rfl rfl rfl ?_
    intro j q _ hq gq H'; simp only [List.set_cons_zero, List.set_cons_succ, List.take_succ_cons, List.take_zero, List.drop_succ_cons, List.drop_zero, List.cons_append, List.nil_append, List.append_nil, List.length_cons, List.length_nil, Nat.reduceAdd] at H'; clear H; have H := H'; clear H'
    refine s_run rfl rfl (r_ext (v := .bool _) rfl rfl) ?_
    refine k_nc ?_
    refine k_seq ?_
    refine k_t rfl ?_
    refine k_skip ?_
    refine c_norm ?_
    refine k_b ?_
    refine k_sg ?_
    refine s_run rfl rfl (r_enR M H 1 rfl rfl) ?_
    refine s_run rfl rfl (r_ext (v := .int _ _) rfl rfl) ?_
    refine s_run rfl rfl (rai rfl) ?_
    refine k_nc ?_
    refine k_rg ?_
    refine s_run rfl rfl (rms rfl) ?_
    refine s_run rfl rfl (rmi rfl) ?_
    refine s_app1 (enc := (Value.int .i64)) H 0 rfl rfl rfl rfl rfl rfl rfl (by omega) Try.underlying25 inf3 rfl ?_
    intro _ An cn _ H'; simp only [List.set_cons_zero, List.set_cons_succ, List.take_succ_cons, List.take_zero, List.drop_succ_cons, List.drop_zero, List.cons_append, List.nil_append, List.append_nil, List.length_cons, List.length_nil, Nat.reduceAdd] at H'; clear H; have H := H'; clear H'
    refine s_run rfl rfl (ras rfl) ?_
    refine k_nil ?_
    refine b_norm ?_
    refine c_round ?_
    have hfs := mset_fst hq
    have hml := mleft_set_len hq
    refine ⟨_, _, ?_, rfl, lb.set j (q, false), some q, An, cn, out ++ [q.1], rfl, by rw [hfs]; exact hlb, ?_, by rw [List.length_append]; rfl, rfl, by rw [List.length_append]; exact H⟩
    · omega
    · have hp := (mleft_set lb j q hq).map Prod.fst
      rw [List.append_assoc]
      exact (List.Perm.append_left out hp.symm).trans hpm
theorem trClosure (hE : Ents (devL g d) w) (hw : Ob.W64 d.cache) (hl : d.cache.length ≤ 1000000000) (hS : HSees w [] A hs) (hk : hs.length = k) (hk2 : k ≤ 1000000) (hW : hsW hs) (hn : n ≤ 1900) (FA : Option Addr) (fn fc : Nat) (l : List Int) (hF : Sees (Value.int .i64) w [] FA l) (hfl : l.length = fn) (hfn : fn ≤ 1000000) (hlb : ∀ a ∈ l, i64ok a) :
    Calls Try.prog 27 [ptr g.p, .agg [.int .i64 n].toArray, .slice A k c, .slice FA fn fc].toArray w fun e w' => ∃ (N : Nat) (s1 : Tr.S), s1 = Tr.rootsTo (Ob.pl n d.cache hs) Tr.s0 l l.length ∧ (∀ j, j < N → (Tr.steps (Ob.pl n d.cache hs) (Ob.ptrs d.cache) s1 j).op ≠ []) ∧ (Tr.steps (Ob.pl n d.cache hs) (Ob.ptrs d.cache) s1 N).op = [] ∧
      ((Tr.steps (Ob.pl n d.cache hs) (Ob.ptrs d.cache) s1 N).bad ≠ [] ∧ e = .returned (.tuple [.slice none 0 0, .int .i64 22].toArray) ∧ Only [] w w' ∨
       (Tr.steps (Ob.pl n d.cache hs) (Ob.ptrs d.cache) s1 N).bad = [] ∧ ∃ A' c', e = .returned (.tuple [.slice A' (Tr.steps (Ob.pl n d.cache hs) (Ob.ptrs d.cache) s1 N).seen.length c', .int .i64 0].toArray) ∧ Heap w [] [ownN 1 (.slice A' (Tr.steps (Ob.pl n d.cache hs) (Ob.ptrs d.cache) s1 N).seen.length c') (Tr.steps (Ob.pl n d.cache hs) (Ob.ptrs d.cache) s1 N).seen.length ((srt (Tr.steps (Ob.pl n d.cache hs) (Ob.ptrs d.cache) s1 N).seen).map (Value.int .i64)) 3] w') := by
  have HD := grp_start hE
  have H := Heap.nil w
  refine k_in (N := 43) Try.func27 rfl rfl rfl ?_
  refine k_sg ?_
  refine s_box H rfl rfl ?_
  intro p5 _ H'; clear H; have H := H'; clear H'
  refine s_run rfl rfl (ras rfl) ?_
  refine s_run rfl rfl (rai rfl) ?_
  refine k_nc ?_
  refine k_sg ?_
  refine s_run rfl rfl (rmp rfl) ?_
  refine s_run rfl rfl (r_la H 0 rfl rfl rfl ag48 sz48) ?_
  refine s_run rfl rfl (rms rfl) ?_
  refine s_call rfl (trNew g n A k c _) (ca21 rfl) ?_
  rintro e W1 ⟨p, bs, bb, rfl, H'⟩
  refine ⟨_, rfl, ?_⟩
  have H := H.more (A := [grp _]) (grp_heap H'); clear H'; simp only [List.cons_append, List.nil_append] at H
  refine s_run rfl rfl (rap rfl) ?_
  refine k_nc ?_
  refine k_sg ?_
  refine s_run rfl rfl (rai rfl) ?_
  refine k_nc ?_
  refine k_seq ?_
  refine k_sg ?_
  refine s_run rfl rfl (rms rfl) ?_
  refine s_run rfl rfl (r_len rfl Try.underlying25) ?_
  refine s_run rfl rfl (rmi rfl) ?_
  refine k_nc ?_
  refine k_b ?_
  replace H := Heap.subl H [0] rfl rfl
  refine k_loop (fun z f W => ∃ (i : Nat) (OA : Option Addr) (oc : Nat) (q : Int), i ≤ fn ∧ z = fn - i ∧ (q = 0 ∨ (Tr.rootsTo (Ob.pl n d.cache hs) Tr.s0 l i).bad ≠ []) ∧ f 10 = ptr p ∧ f 11 = .int .i64 q ∧ f 20 = .slice FA fn fc ∧ f 21 = .int .i64 fn ∧ f 22 = .int .i64 i ∧ Heap w [] [grp (trE g n A k c p bs bb OA oc (Tr.rootsTo (Ob.pl n d.cache hs) Tr.s0 l i))] W) fn ⟨0, none, 0, 0, by omega, rfl, .inl rfl, rfl, rfl, rfl, rfl, rfl, H⟩ ?_
  clear H
  rintro z f W ⟨i, OA, oc, q, hi, rfl, hq, f10, f11, f20, f21, f22, H⟩
  obtain ⟨f, rfl⟩ := live5 f10 f11 f20 f21 f22
  clear f10 f11 f20 f21 f22
  have hoki := (Tr.ok0 (Ob.pl n d.cache hs)).rootsTo l i
  have hDv : ∀ {s2 : Tr.S} {OA : Option Addr} {oc : Nat} {W2 : World}, Heap w [] [grp (trE g n A k c p bs bb OA oc s2)] W2 → Ents [grp (devL g d), grp (trE g n A k c p bs bb OA oc s2)] W2 := fun {s2 OA oc W2} H => by
    have h1 := Heap.more HD H
    exact ⟨fun E hE => by rcases List.mem_cons.1 hE with rfl | h2; exact h1.ok _ (by simp); exact h1.ok _ (by simp at h2 ⊢; exact .inl h2), by
      have h2 := h1.nd
      rw [List.singleton_append, ids_cons, ids_cons] at h2
      rw [ids_cons, ids_cons]
      have h3 : ids ([] : List Ent) = [] := rfl
      rw [h3, List.append_nil] at h2 ⊢
      exact (List.perm_append_comm.nodup_iff).1 h2⟩
  have hSv : ∀ {s2 : Tr.S} {OA : Option Addr} {oc : Nat} {W2 : World}, Heap w [] [grp (trE g n A k c p bs bb OA oc s2)] W2 → HSees W2 (ids (trE g n A k c p bs bb OA oc s2)) A hs := fun {s2 OA oc W2} H => (hS.on H (by simp)).mono (fun j hj => List.mem_append_right _ (by rw [ids_cons]; exact List.mem_append_left _ hj))
  by_cases hlt : i < fn
  · obtain ⟨x, hx⟩ : ∃ x, l[i]? = some x := ⟨_, List.getElem?_eq_getElem (by omega)⟩
    have hxd : l.getD i 0 = x := by rw [List.getD_eq_getElem?_getD, hx]; rfl
    obtain ⟨b, o, rfl, _, hrd⟩ := hF (by omega)
    have cx := hrd i x hx
    have hR := fun {W : World} (H : Heap w [] [grp (trE g n A k c p bs bb OA oc (Tr.rootsTo (Ob.pl n d.cache hs) Tr.s0 l i))] W) => trRoot (hDv H) hw hl (hSv H) hk hk2 hW hn hoki x (hlb x (List.mem_of_getElem? hx))
    have hrs : Tr.rootsTo (Ob.pl n d.cache hs) Tr.s0 l (i + 1) = Tr.reach (Ob.pl n d.cache hs) (Tr.rootsTo (Ob.pl n d.cache hs) Tr.s0 l i) (-1, 0) x := by rw [Tr.rootsTo, hxd]
    have hcb := Tr.code_bad (Ob.pl n d.cache hs) (Tr.rootsTo (Ob.pl n d.cache hs) Tr.s0 l i) (-1, 0) x
    have hbe := Tr.reach_badE (Ob.pl n d.cache hs) (Tr.rootsTo (Ob.pl n d.cache hs) Tr.s0 l i) (-1, 0) x
    rw [← hrs] at hR hcb hbe
    generalize Tr.code (Ob.pl n d.cache hs) (Tr.rootsTo (Ob.pl n d.cache hs) Tr.s0 l i) x = cd at *
    by_cases hc0 : cd = 0
    · subst hc0
      refine k_sg ?_
      refine s_run rfl rfl (r_lssT rfl rfl (by omega)) ?_
      refine k_nc ?_
      refine k_seq ?_
      refine k_t rfl ?_
      refine k_skip ?_
      refine c_norm ?_
      refine k_seq ?_
      refine k_b ?_
      refine k_sg ?_
      refine s_run rfl rfl (r_ix1o rfl rfl rfl (by omega) Try.underlying25 sz3) ?_
      refine s_run rfl rfl (r_lr H rfl cx (by simp) ag3) ?_
      refine s_run rfl rfl (rai rfl) ?_
      refine k_nc ?_
      refine k_sg ?_
      refine s_run rfl rfl (rmp rfl) ?_
      refine s_run rfl rfl (rmi rfl) ?_
      refine s_call rfl (hR H) (ca22 rfl) ?_
      rintro e W1 ⟨rfl, OA', oc', H'⟩
      refine ⟨_, rfl, ?_⟩
      have H := H.grp_at 0 rfl H'; clear H'; simp only [List.set_cons_zero] at H
      refine s_run rfl rfl (rai rfl) ?_
      refine k_nc ?_
      refine k_sg ?_
      refine s_run rfl rfl (rmi rfl) ?_
      refine s_run rfl rfl (r_neqF rfl rfl (by omega)) ?_
      refine k_nc ?_
      refine k_f rfl ?_
      refine k_skip ?_
      refine b_norm ?_
      refine c_norm ?_
      refine k_rg ?_
      refine s_run rfl rfl (r_add rfl rfl (wI (by omega))) ?_
      refine s_run rfl rfl (rmi rfl) ?_
      refine k_nil ?_
      refine c_round ?_
      exact ⟨_, _, by omega, rfl, i + 1, OA', oc', q, by omega, rfl, hq.imp id (fun h h2 => h (hbe h2)), rfl, rfl, rfl, rfl, rfl, H⟩
    · refine k_sg ?_
      refine s_run rfl rfl (r_lssT rfl rfl (by omega)) ?_
      refine k_nc ?_
      refine k_seq ?_
      refine k_t rfl ?_
      refine k_skip ?_
      refine c_norm ?_
      refine k_seq ?_
      refine k_b ?_
      refine k_sg ?_
      refine s_run rfl rfl (r_ix1o rfl rfl rfl (by omega) Try.underlying25 sz3) ?_
      refine s_run rfl rfl (r_lr H rfl cx (by simp) ag3) ?_
      refine s_run rfl rfl (rai rfl) ?_
      refine k_nc ?_
      refine k_sg ?_
      refine s_run rfl rfl (rmp rfl) ?_
      refine s_run rfl rfl (rmi rfl) ?_
      refine s_call rfl (hR H) (ca22 rfl) ?_
      rintro e W1 ⟨rfl, OA', oc', H'⟩
      refine ⟨_, rfl, ?_⟩
      have H := H.grp_at 0 rfl H'; clear H'; simp only [List.set_cons_zero] at H
      refine s_run rfl rfl (rai rfl) ?_
      refine k_nc ?_
      refine k_sg ?_
      refine s_run rfl rfl (rmi rfl) ?_
      refine s_run rfl rfl (r_neqT rfl rfl (by omega)) ?_
      refine k_nc ?_
      refine k_t rfl ?_
      refine k_rg ?_
      refine s_run rfl rfl (rmi rfl) ?_
      refine s_run rfl rfl (rai rfl) ?_
      refine k_nil ?_
      refine b_norm ?_
      refine c_norm ?_
      refine k_rg ?_
      refine s_run rfl rfl (r_add rfl rfl (wI (by omega))) ?_
      refine s_run rfl rfl (rmi rfl) ?_
      refine k_nil ?_
      refine c_round ?_
      exact ⟨_, _, by omega, rfl, i + 1, OA', oc', cd, by omega, rfl, .inr (fun h2 => hc0 (hcb h2)), rfl, rfl, rfl, rfl, rfl, H⟩
  · obtain rfl : i = l.length := by omega
    have hlen := Tr.rootsTo_len (Ob.pl n d.cache hs) l l.length
    generalize hs1 : Tr.rootsTo (Ob.pl n d.cache hs) Tr.s0 l l.length = s1 at *
    have hR := fun {W : World} (H : Heap w [] [grp (trE g n A k c p bs bb OA oc s1)] W) => trRun (hDv H) hw hl (hSv H) (fun _ h => h) hk hk2 hW hn hoki hlen
    refine k_sg ?_
    refine s_run rfl rfl (r_lssF rfl rfl (by omega)) ?_
    refine k_nc ?_
    refine k_seq ?_
    refine k_f rfl ?_
    refine k_exit ?_
    refine c_exit ?_
    refine c_exit ?_
    refine b_hit ?_
    refine c_norm ?_
    refine k_seq ?_
    refine k_sg ?_
    refine s_run rfl rfl (rmp rfl) ?_
    refine s_call rfl (hR H) (ca24 rfl) ?_
    rintro e W1 ⟨N, OA', oc', hN1, hN2, rfl, H'⟩
    refine ⟨_, rfl, ?_⟩
    have H := H.grp_at 0 rfl H'; clear H'; simp only [List.set_cons_zero] at H
    refine s_run rfl rfl (rai rfl) ?_
    refine k_nc ?_
    refine k_seq ?_
    by_cases hb : (Tr.steps (Ob.pl n d.cache hs) (Ob.ptrs d.cache) s1 N).bad = []
    · have hb1 := Tr.steps_badE _ _ _ _ hb
      obtain rfl : q = 0 := hq.elim id (fun h => absurd hb1 h)
      have hlnN := trLen (hoki.steps (pt := Ob.ptrs d.cache) N)
      have hSe := fun {W : World} hE => trSeen (g := g) (n := n) (k := k) (c := c) (p := p) (bs := bs) (bb := bb) (oc := oc') (A := A) (OA := OA') (s := Tr.steps (Ob.pl n d.cache hs) (Ob.ptrs d.cache) s1 N) (w := W) hE (by omega)
      rw [if_pos hb]
      refine k_rg ?_
      refine s_run rfl rfl (rmi rfl) ?_
      refine s_run rfl rfl (r_neqF rfl rfl (by omega)) ?_
      refine s_run rfl rfl (rmb rfl) ?_
      refine s_run rfl (g_on 37 (by kernel_rfl) rfl) (rmi rfl) ?_
      refine s_run rfl (g_on 37 (by kernel_rfl) rfl) (r_neqF rfl rfl (by omega)) ?_
      refine s_run rfl rfl (r_pkF (v := .bool _) rfl rfl) ?_
      refine k_nc ?_
      refine k_f rfl ?_
      refine k_skip ?_
      refine c_norm ?_
      refine k_sg ?_
      refine s_run rfl rfl (rmp rfl) ?_
      refine s_call rfl (hSe (H.grp_ents 0 rfl)) (ca25 rfl) ?_
      rintro e W1 ⟨A', c', rfl, H'⟩
      refine ⟨_, rfl, ?_⟩
      have H := H.more H'; clear H'; simp only [List.cons_append, List.nil_append] at H
      refine s_run rfl rfl (ras rfl) ?_
      refine s_run rfl rfl (rai rfl) ?_
      refine k_nc ?_
      refine k_ret ?_
      refine fin2r (v := .slice _ _ _) (v2 := .int _ _) rfl rfl rfl ?_
      exact ⟨N, s1, rfl, hN1, hN2, .inr ⟨hb, A', c', rfl, Heap.subl H [0] rfl rfl⟩⟩
    · rw [if_neg hb]
      refine k_rg ?_
      refine s_run rfl rfl (rmi rfl) ?_
      refine s_run rfl rfl (r_neqT rfl rfl (by omega)) ?_
      refine s_run rfl rfl (rmb rfl) ?_
      refine s_off rfl (g_off 37 (by kernel_rfl) rfl rfl) ?_
      refine s_off rfl (g_off 37 (by kernel_rfl) rfl rfl) ?_
      refine s_run rfl rfl (r_pkT (v := .bool _) rfl rfl) ?_
      refine k_nc ?_
      refine k_t rfl ?_
      refine k_sg ?_
      refine s_run rfl rfl (ras rfl) ?_
      refine s_run rfl rfl (rai rfl) ?_
      refine k_nc ?_
      refine k_ret ?_
      refine c_ret ?_
      refine fin2r (v := .slice _ _ _) (v2 := .int _ _) rfl rfl rfl ?_
      exact ⟨N, s1, rfl, hN1, hN2, .inl ⟨hb, rfl, H.only⟩⟩
end
end Go.Proofs.Ytlakbclnilakbaa
end

section
namespace Go.Proofs.Ytlakbclnilakbaa
open Go.RowKit
def fuseRel (d : Nv.D) (rf : Int) : Prop := (d.armed = true ∧ rf = d.fuse ∧ 0 ≤ rf ∧ rf ≤ 9223372036854775807) ∨ (d.armed = false ∧ rf = -1)
structure RefS where
 A0 : Option Addr
 c0 : Nat
 A1 : Option Addr
 c1 : Nat
 A2 : Option Addr
 c2 : Nat
 A3 : Option Addr
 c3 : Nat
 A4 : Option Addr
 c4 : Nat
 rf : Int
def refCells (s : RefS) (d : Nv.D) (m : Nat) : List Value := [.slice s.A0 m s.c0, .slice s.A1 m s.c1, .slice s.A2 m s.c2, .slice s.A3 m s.c3, .slice s.A4 m s.c4, .int .i64 d.steps, .int .i64 s.rf, .bool d.dead]
/-- the document's device that is d, out of blocks that are not of F -/
structure RefOk (w : World) (F : List Nat) (s : RefS) (d : Nv.D) (m : Nat) : Prop where
 now : Sees (Value.int .u64) w F s.A0 d.cache
 last : Sees (Value.int .u64) w F s.A1 d.last
 wait : Sees (Value.int .u64) w F s.A2 d.fl
 dirty : Sees Value.bool w F s.A3 d.dirty
 pend : Sees Value.bool w F s.A4 d.pend
 fuse : fuseRel d s.rf
 ok : Nv.Ok d m
theorem RefOk.later {w W : World} {F G : List Nat} {s : RefS} {d : Nv.D} {m : Nat} (h : RefOk w F s d m) (hO : Only G w W) (hG : ∀ i ∈ G, i ∈ F) : RefOk W F s d m :=
 ⟨h.now.later hO hG, h.last.later hO hG, h.wait.later hO hG, h.dirty.later hO hG, h.pend.later hO hG, h.fuse, h.ok⟩
theorem RefOk.killed {w : World} {F : List Nat} {s : RefS} {d : Nv.D} {m : Nat} (h : RefOk w F s d m) : RefOk w F s (Nv.killed d) m :=
 ⟨h.now, h.last, h.wait, h.dirty, h.pend, h.fuse, h.ok.killed⟩
end Go.Proofs.Ytlakbclnilakbaa
end

section
namespace Go.Proofs.Ytlakbclnilakbaa
open Go.RowKit
theorem refE (s : RefS) (d : Nv.D) (m : Nat) : refCells s d m = [.slice s.A0 m s.c0, .slice s.A1 m s.c1, .slice s.A2 m s.c2, .slice s.A3 m s.c3, .slice s.A4 m s.c4, .int .i64 d.steps, .int .i64 s.rf, .bool d.dead] := rfl
end Go.Proofs.Ytlakbclnilakbaa
end

section
namespace Go.Proofs.Ytlakbclnilakbaa
open Go.RowKit
theorem rGet (A : Option Addr) (m c : Nat) (a : Int) (zs : List Int) (w : World) (hz : Sees (Value.int .u64) w [] A zs) (hl : zs.length = 8 * m) (hm : m ≤ 100000) :
  Calls Try.prog 66 [.slice A m c, .int .i64 a].toArray w fun e w' => e = .returned (.int .u64 (Nv.get zs a)) ∧ Only [] w w' := by
 have H := Heap.nil w
 unfold Nv.get
 by_cases hin : 0 ≤ a ∧ a < (zs.length : Int)
 ·rw [if_pos hin]
  obtain ⟨i, rfl⟩ : ∃ i : Nat, a = (i : Int) := ⟨a.toNat, by omega⟩
  rw [Int.toNat_natCast]
  obtain ⟨b, o, rfl, _, hr⟩ := hz (by omega)
  have hc := hr i _ (getE (by omega))
  have e1 : o + i / 8 * 8 + i % 8 = o + i := by omega
  refine k_in (N := 22) Try.func66 rfl rfl rfl ?_
  refine k_sg ?_
  refine s_run rfl rfl (rai rfl) ?_
  refine k_nc ?_
  refine k_seq ?_
  refine k_sg ?_
  refine s_run rfl rfl (rmi rfl) ?_
  refine s_run rfl rfl (r_lssF rfl rfl (by omega)) ?_
  refine s_run rfl rfl (rmb rfl) ?_
  refine s_run rfl (g_on 7 (by kernel_rfl) rfl) (rmi rfl) ?_
  refine s_run rfl (g_on 7 (by kernel_rfl) rfl) (rms rfl) ?_
  refine s_run rfl (g_on 7 (by kernel_rfl) rfl) (r_len rfl Try.underlying61) ?_
  refine s_run rfl (g_on 7 (by kernel_rfl) rfl) (r_mul rfl rfl (wI (by omega))) ?_
  refine s_run rfl (g_on 7 (by kernel_rfl) rfl) (r_geqF rfl rfl (by omega)) ?_
  refine s_run rfl rfl (r_pkF (v := .bool _) rfl rfl) ?_
  refine k_nc ?_
  refine k_f rfl ?_
  refine k_skip ?_
  refine c_norm ?_
  refine k_sg ?_
  refine s_run rfl rfl (rms rfl) ?_
  refine s_run rfl rfl (rmi rfl) ?_
  refine s_run rfl rfl (r_quo rfl rfl (by omega) (wI (by omega))) ?_
  refine s_run rfl rfl (rmi rfl) ?_
  refine s_run rfl rfl (r_rem rfl rfl (by omega)) ?_
  first | (refine s_run rfl rfl (r_ix0 (i := i / 8) rfl rfl (by omega) (by omega) Try.underlying61 sz116) ?_) | (refine s_run rfl rfl (r_ix (i := i / 8) rfl rfl (by omega) (by omega) Try.underlying61 sz116) ?_) | fail
  first | (refine s_run rfl rfl (r_ia0 (i := i % 8) rfl rfl (by omega) (by omega) Try.underlying116 sz78) ?_) | (refine s_run rfl rfl (r_ia1 (i := i % 8) rfl rfl (by omega) (by omega) Try.underlying116 sz78) ?_) | fail
  refine s_run rfl rfl (r_lr H (i := o + i) (by rw [← e1]; rfl) hc (by simp) ag78) ?_
  refine s_run rfl rfl (rai rfl) ?_
  refine k_nc ?_
  refine k_ret ?_
  refine fin1r (v := .int _ _) rfl rfl ?_
  exact ⟨rfl, H.only⟩
 ·rw [if_neg hin]
  by_cases h1 : a < 0
  ·refine k_in (N := 22) Try.func66 rfl rfl rfl ?_
   refine k_sg ?_
   refine s_run rfl rfl (rai rfl) ?_
   refine k_nc ?_
   refine k_seq ?_
   refine k_sg ?_
   refine s_run rfl rfl (rmi rfl) ?_
   refine s_run rfl rfl (r_lssT rfl rfl (by omega)) ?_
   refine s_run rfl rfl (rmb rfl) ?_
   refine s_off rfl (g_off 7 (by kernel_rfl) rfl rfl) ?_
   refine s_off rfl (g_off 7 (by kernel_rfl) rfl rfl) ?_
   refine s_off rfl (g_off 7 (by kernel_rfl) rfl rfl) ?_
   refine s_off rfl (g_off 7 (by kernel_rfl) rfl rfl) ?_
   refine s_off rfl (g_off 7 (by kernel_rfl) rfl rfl) ?_
   refine s_run rfl rfl (r_pkT (v := .bool _) rfl rfl) ?_
   refine k_nc ?_
   refine k_t rfl ?_
   refine k_sg ?_
   refine s_run rfl rfl (rai rfl) ?_
   refine k_nc ?_
   refine k_ret ?_
   refine c_ret ?_
   refine fin1r (v := .int _ _) rfl rfl ?_
   exact ⟨rfl, H.only⟩
  ·refine k_in (N := 22) Try.func66 rfl rfl rfl ?_
   refine k_sg ?_
   refine s_run rfl rfl (rai rfl) ?_
   refine k_nc ?_
   refine k_seq ?_
   refine k_sg ?_
   refine s_run rfl rfl (rmi rfl) ?_
   refine s_run rfl rfl (r_lssF rfl rfl (by omega)) ?_
   refine s_run rfl rfl (rmb rfl) ?_
   refine s_run rfl (g_on 7 (by kernel_rfl) rfl) (rmi rfl) ?_
   refine s_run rfl (g_on 7 (by kernel_rfl) rfl) (rms rfl) ?_
   refine s_run rfl (g_on 7 (by kernel_rfl) rfl) (r_len rfl Try.underlying61) ?_
   refine s_run rfl (g_on 7 (by kernel_rfl) rfl) (r_mul rfl rfl (wI (by omega))) ?_
   refine s_run rfl (g_on 7 (by kernel_rfl) rfl) (r_geqT rfl rfl (by omega)) ?_
   refine s_run rfl rfl (r_pkF (v := .bool _) rfl rfl) ?_
   refine k_nc ?_
   refine k_t rfl ?_
   refine k_sg ?_
   refine s_run rfl rfl (rai rfl) ?_
   refine k_nc ?_
   refine k_ret ?_
   refine c_ret ?_
   refine fin1r (v := .int _ _) rfl rfl ?_
   exact ⟨rfl, H.only⟩
end Go.Proofs.Ytlakbclnilakbaa
end

section
namespace Go.Proofs.Ytlakbclnilakbaa
open Go.RowKit
end Go.Proofs.Ytlakbclnilakbaa
end

section
namespace Go.Proofs.Ytlakbclnilakbaa
open Go.RowKit
end Go.Proofs.Ytlakbclnilakbaa
end

section
namespace Go.Proofs.Ytlakbclnilakbaa
open Go.RowKit
theorem RefOk.news {w : World} {F G : List Nat} {s : RefS} {d : Nv.D} {m : Nat} (h : RefOk w F s d m) (hG : ∀ i ∈ G, i ∈ F ∨ w.heap.size ≤ i) : RefOk w G s d m :=
 ⟨h.now.news hG, h.last.news hG, h.wait.news hG, h.dirty.news hG, h.pend.news hG, h.fuse, h.ok⟩
end Go.Proofs.Ytlakbclnilakbaa
end

section
namespace Go.Proofs.Ytlakbclnilakbaa
open Go.RowKit
end Go.Proofs.Ytlakbclnilakbaa
end

section
namespace Go.Proofs.Ytlakbclnilakbaa
open Go.RowKit
def flat (zs : List Int) (k : Nat) : List Int := zs.take k ++ List.replicate (8 * ((k + 7) / 8) - k) 0
theorem flat_len (zs : List Int) (k : Nat) (h : k ≤ zs.length) : (flat zs k).length = 8 * ((k + 7) / 8) := by simp [flat]; omega
theorem set_atR (xs : List Int) (k r : Nat) (z : Int) (h : xs.length = k) (hr : 0 < r) : (xs ++ List.replicate r 0).set k z = xs ++ [z] ++ List.replicate (r - 1) 0 := by
 obtain ⟨r, rfl⟩ : ∃ q, r = q + 1 := ⟨r - 1, by omega⟩
 rw [List.set_append_right _ _ (by omega), h, Nat.sub_self, List.replicate_succ, List.set_cons_zero]
 simp
theorem flat_next0 {zs : List Int} {k : Nat} {z : Int} (hz : zs[k]? = some z) (h8 : k % 8 = 0) : (flat zs k ++ [0, 0, 0, 0, 0, 0, 0, 0]).set k z = flat zs (k + 1) := by
 have hk : k < zs.length := (List.getElem?_eq_some_iff.1 hz).1
 have e1 : flat zs k = zs.take k := by unfold flat; rw [show 8 * ((k + 7) / 8) - k = 0 from by omega]; simp
 rw [e1]
 have := set_atR (zs.take k) k 8 z (by simp; omega) (by omega)
 rw [show List.replicate 8 (0 : Int) = [0, 0, 0, 0, 0, 0, 0, 0] from rfl] at this
 rw [this]
 unfold flat
 rw [take_succ_of hz, show 8 * ((k + 1 + 7) / 8) - (k + 1) = 7 from by omega]
theorem flat_next1 {zs : List Int} {k : Nat} {z : Int} (hz : zs[k]? = some z) (h8 : ¬ k % 8 = 0) : (flat zs k).set k z = flat zs (k + 1) := by
 have hk : k < zs.length := (List.getElem?_eq_some_iff.1 hz).1
 unfold flat
 rw [set_atR (zs.take k) k _ z (by simp; omega) (by omega), take_succ_of hz]
 congr 2
 omega
def nilDev : List Value := [.slice none 0 0, .slice none 0 0, .slice none 0 0, .slice none 0 0, .slice none 0 0, .int .i64 0, .int .i64 0, .bool false]
theorem rLoad (A : Option Addr) (n c : Nat) (zs : List Int) (F : List Nat) (w : World) (hz : Sees (Value.int .u64) w [] A zs) (hl : zs.length = n) (hn : n ≤ 500000) (hF : ∀ i ∈ F, i < w.heap.size) :
  Calls Try.prog 29 [.slice A n c].toArray w fun e w' => ∃ s', e = .returned (.agg (refCells s' (Nv.load (zs ++ List.replicate (8 * ((n + 7) / 8) - n) 0) ((n + 7) / 8)) ((n + 7) / 8)).toArray) ∧ Heap w [] [] w' ∧ RefOk w' F s' (Nv.load (zs ++ List.replicate (8 * ((n + 7) / 8) - n) 0) ((n + 7) / 8)) ((n + 7) / 8) := by
 have H := Heap.nil w
 refine k_in (N := 55) Try.func29 rfl rfl rfl ?_
 refine k_sg ?_
 refine s_al H rfl inf64 ?_
 intro p2 _ H'; clear H; have H := H'; clear H'
 refine k_nc ?_
 refine k_sg ?_
 refine s_al H rfl inf64 ?_
 intro p3 _ H'; clear H; have H := H'; clear H'
 refine k_nc ?_
 refine k_seq ?_
 refine k_sg ?_
 refine s_run rfl rfl (rai rfl) ?_
 refine k_nc ?_
 refine k_b ?_
 refine k_loop (fun q f W => ∃ (k : Nat) (B : Option Addr) (cb : Nat), k ≤ n ∧ q = n - k ∧ (k ≠ 0 → ∃ b, B = some ⟨b, 0, none⟩) ∧ f 0 = .slice A n c ∧ f 2 = ptr p2 ∧ f 3 = ptr p3 ∧ f 4 = .int .i64 k ∧ Heap w [] [ownN 8 (.slice B ((k + 7) / 8) cb) ((k + 7) / 8) ((flat zs k).map (Value.int .u64)) 116, blk p3 [.slice B ((k + 7) / 8) cb, .slice none 0 0, .slice none 0 0, .slice none 0 0, .slice none 0 0, .int .i64 0, .int .i64 0, .bool false] 64, blk p2 nilDev 64] W) n ⟨0, none, 0, by omega, rfl, fun h => absurd rfl h, rfl, rfl, rfl, rfl, by rw [show flat zs 0 = [] from rfl]; exact H.own_nil 8 116⟩ ?_
 clear H
 rintro q f W ⟨k, B, cb, hk, rfl, hB, h0, h2, h3, h4, H⟩
 obtain ⟨f, rfl⟩ := live4 h0 h2 h3 h4
 clear h0 h2 h3 h4
 by_cases hlt : k < n
 ·have hzk := getE (xs := zs) (i := k) (by omega)
  obtain ⟨b0, o0, rfl, _, hr⟩ := hz (by omega)
  have hcell := hr k _ hzk
  have hfl := flat_len zs k (by omega)
  have hfl1 := flat_len zs (k + 1) (by omega)
  by_cases h8 : k % 8 = 0
  ·have hnx := flat_next0 hzk h8
   have em : (k + 7) / 8 + 1 = (k + 1 + 7) / 8 := by omega
   have hlen8 : (flat zs k ++ [0, 0, 0, 0, 0, 0, 0, 0]).length = 8 * ((k + 7) / 8) + 8 := by rw [List.length_append, hfl]; rfl
   refine k_seq ?_
   refine k_sg ?_
   refine s_run rfl rfl (rmi rfl) ?_
   refine s_run rfl rfl (rms rfl) ?_
   refine s_run rfl rfl (r_len rfl Try.underlying66) ?_
   refine s_run rfl rfl (r_lssT rfl rfl (by omega)) ?_
   refine k_nc ?_
   refine k_t rfl ?_
   refine k_skip ?_
   refine c_norm ?_
   refine k_seq ?_
   refine k_b ?_
   refine k_seq ?_
   refine k_sg ?_
   refine s_run rfl rfl (rmi rfl) ?_
   refine s_run rfl rfl (r_rem rfl rfl (by omega)) ?_
   refine s_run rfl rfl (r_eqlT rfl rfl (by omega)) ?_
   refine k_nc ?_
   refine k_t rfl ?_
   refine k_rg ?_
   refine s_run rfl rfl (r_fa0 rfl fo64_0) ?_
   refine s_run rfl rfl (r_lo H 1 rfl rfl rfl ag61) ?_
   refine s_run rfl rfl (r_bd (bd116 ) rfl) ?_
   refine s_appN (enc := (Value.int .u64)) (zs := [0, 0, 0, 0, 0, 0, 0, 0]) H 0 rfl rfl rfl rfl (fun _ => rfl) (by omega) (by kernel_rfl) rfl rfl rfl (by omega) Try.underlying61 inf116 rfl ?_
   intro _ bn cn _ H'; simp only [List.set_cons_zero, List.set_cons_succ, List.take_succ_cons, List.take_zero, List.drop_succ_cons, List.drop_zero, List.cons_append, List.nil_append, List.append_nil, List.length_cons, List.length_nil, Nat.reduceAdd] at H'; clear H; have H := H'; clear H'
   refine s_run rfl rfl (r_fa0 rfl fo64_0) ?_
   refine s_st (u := .slice _ _ _) H 1 rfl rfl rfl rfl rfl rfl sz61 ?_
   clear H; intro _ H; simp only [jA, jB, jC, jD, jE, jF, jG, jH, jI, jJ, jK, Nat.reduceAdd] at H
   refine k_nc ?_
   refine k_qt 12 mixed (by kernel_rfl) H rfl rfl ?_
   refine q_run rfl rfl (fun _ H => r_fa0 rfl fo64_0) ?_
   refine q_run rfl rfl (fun _ H => r_lo H 1 rfl rfl rfl ag61) ?_
   refine q_run rfl rfl (fun _ H => r_mv (v := .int _ _) rfl) ?_
   refine q_run rfl rfl (fun _ H => r_quo rfl rfl (by omega) (wI (by omega))) ?_
   refine q_run rfl rfl (fun _ H => r_mv (v := .int _ _) rfl) ?_
   refine q_run rfl rfl (fun _ H => r_rem rfl rfl (by omega)) ?_
   refine q_run rfl rfl (fun _ H => r_mv (v := .slice _ _ _) rfl) ?_
   refine q_run rfl rfl (fun _ H => r_mv (v := .int _ _) rfl) ?_
   refine q_run rfl rfl (fun _ H => r_ix1o rfl rfl rfl (by omega) Try.underlying66 sz78) ?_
   refine q_run rfl rfl (fun _ H => r_lr H rfl hcell (by simp) ag78) ?_
   refine q_run rfl rfl (fun _ H => r_ix0 (i := k / 8) rfl rfl (by omega) (by omega) Try.underlying61 sz116) ?_
   refine q_run rfl rfl (fun _ H => r_ia1 (i := k % 8) rfl rfl (by omega) (by omega) Try.underlying116 sz78) ?_
   refine q_nil ?_
   intro _ H'; clear H; have H := H'; clear H'
   refine s_so (enc := Value.int .u64) (xs := flat zs k ++ [0, 0, 0, 0, 0, 0, 0, 0]) (z := zs.getD k default) H 0 rfl rfl rfl rfl rfl (by rw [hlen8]; omega) rfl sz78 ?_
   clear H; intro _ H; simp only [jA, jB, jC, jD, jE, jF, jG, jH, jI, jJ, jK, Nat.reduceAdd] at H
   refine k_nil ?_
   refine b_norm ?_
   refine c_norm ?_
   refine k_rg ?_
   refine s_run rfl rfl (rmi rfl) ?_
   refine s_run rfl rfl (r_add rfl rfl (wI (by omega))) ?_
   refine s_run rfl rfl (rai rfl) ?_
   refine k_nil ?_
   refine c_round ?_
   have e1 : k / 8 * 8 + k % 8 = k := by omega
   rw [e1, hnx] at H
   refine ⟨_, _, ?_, rfl, k + 1, some ⟨bn, 0, none⟩, cn, by omega, rfl, fun _ => ⟨bn, rfl⟩, rfl, rfl, rfl, rfl, ?_⟩
   ·omega
   ·rw [← em]; exact H
  ·have hnx := flat_next1 hzk h8
   obtain ⟨b, rfl⟩ := hB (by omega)
   have em : (k + 7) / 8 = (k + 1 + 7) / 8 := by omega
   refine k_seq ?_
   refine k_sg ?_
   refine s_run rfl rfl (rmi rfl) ?_
   refine s_run rfl rfl (rms rfl) ?_
   refine s_run rfl rfl (r_len rfl Try.underlying66) ?_
   refine s_run rfl rfl (r_lssT rfl rfl (by omega)) ?_
   refine k_nc ?_
   refine k_t rfl ?_
   refine k_skip ?_
   refine c_norm ?_
   refine k_seq ?_
   refine k_b ?_
   refine k_seq ?_
   refine k_sg ?_
   refine s_run rfl rfl (rmi rfl) ?_
   refine s_run rfl rfl (r_rem rfl rfl (by omega)) ?_
   refine s_run rfl rfl (r_eqlF rfl rfl (by omega)) ?_
   refine k_nc ?_
   refine k_f rfl ?_
   refine k_skip ?_
   refine c_norm ?_
   refine k_qt 12 mixed (by kernel_rfl) H rfl rfl ?_
   refine q_run rfl rfl (fun _ H => r_fa0 rfl fo64_0) ?_
   refine q_run rfl rfl (fun _ H => r_lo H 1 rfl rfl rfl ag61) ?_
   refine q_run rfl rfl (fun _ H => r_mv (v := .int _ _) rfl) ?_
   refine q_run rfl rfl (fun _ H => r_quo rfl rfl (by omega) (wI (by omega))) ?_
   refine q_run rfl rfl (fun _ H => r_mv (v := .int _ _) rfl) ?_
   refine q_run rfl rfl (fun _ H => r_rem rfl rfl (by omega)) ?_
   refine q_run rfl rfl (fun _ H => r_mv (v := .slice _ _ _) rfl) ?_
   refine q_run rfl rfl (fun _ H => r_mv (v := .int _ _) rfl) ?_
   refine q_run rfl rfl (fun _ H => r_ix1o rfl rfl rfl (by omega) Try.underlying66 sz78) ?_
   refine q_run rfl rfl (fun _ H => r_lr H rfl hcell (by simp) ag78) ?_
   refine q_run rfl rfl (fun _ H => r_ix0 (i := k / 8) rfl rfl (by omega) (by omega) Try.underlying61 sz116) ?_
   refine q_run rfl rfl (fun _ H => r_ia1 (i := k % 8) rfl rfl (by omega) (by omega) Try.underlying116 sz78) ?_
   refine q_nil ?_
   intro _ H'; clear H; have H := H'; clear H'
   refine s_so (z := zs.getD k default) H 0 rfl rfl rfl rfl rfl (by rw [hfl]; omega) rfl sz78 ?_
   clear H; intro _ H; simp only [jA, jB, jC, jD, jE, jF, jG, jH, jI, jJ, jK, Nat.reduceAdd] at H
   refine k_nil ?_
   refine b_norm ?_
   refine c_norm ?_
   refine k_rg ?_
   refine s_run rfl rfl (rmi rfl) ?_
   refine s_run rfl rfl (r_add rfl rfl (wI (by omega))) ?_
   refine s_run rfl rfl (rai rfl) ?_
   refine k_nil ?_
   refine c_round ?_
   have e1 : k / 8 * 8 + k % 8 = k := by omega
   rw [e1, hnx] at H
   refine ⟨_, _, ?_, rfl, k + 1, some ⟨b, 0, none⟩, cb, by omega, rfl, fun _ => ⟨b, rfl⟩, rfl, rfl, rfl, rfl, ?_⟩
   ·omega
   ·rw [← em]; exact H
 ·obtain rfl : k = n := by omega
  have hfin : flat zs k = zs ++ List.replicate (8 * ((k + 7) / 8) - k) 0 := by unfold flat; rw [List.take_of_length_le (by omega)]
  have hfl := flat_len zs k (by omega)
  rw [← hfin]
  generalize flat zs k = fz at *
  have hq : (k + 7) / 8 ≤ 100000 := by omega
  generalize (k + 7) / 8 = m at *
  obtain ⟨b, hb, hlb, H⟩ := own_vecN (by omega) H
  have HB := H
  have hnd := HB.nd
  clear H
  have H := Heap.start HB.drop.ents
  generalize hG : ids [blk p3 [.slice B m cb, .slice none 0 0, .slice none 0 0, .slice none 0 0, .slice none 0 0, .int .i64 0, .int .i64 0, .bool false] 64, blk p2 nilDev 64] = G at H
  have hS : Sees (Value.int .u64) W G B fz := by
   intro h0
   refine ⟨b, 0, hb (by omega), ?_, HB.reads0 0 rfl⟩
   subst hG
   intro hm
   rw [ids_cons] at hnd
   exact (List.nodup_append.1 hnd).2.2 b (by simp [vec, h0]) b hm rfl
  have H := H.own_nil 8 116
  refine k_seq ?_
  refine k_sg ?_
  refine s_run rfl rfl (rmi rfl) ?_
  refine s_run rfl rfl (rms rfl) ?_
  refine s_run rfl rfl (r_len rfl Try.underlying66) ?_
  refine s_run rfl rfl (r_lssF rfl rfl (by omega)) ?_
  refine k_nc ?_
  refine k_f rfl ?_
  refine k_exit ?_
  refine c_exit ?_
  refine c_exit ?_
  refine b_hit ?_
  refine c_norm ?_
  refine k_sg ?_
  refine s_run rfl rfl (r_fa0 rfl fo64_1) ?_
  refine s_run rfl rfl (r_lo H 1 rfl rfl rfl ag61) ?_
  refine s_run rfl rfl (r_fa0 rfl fo64_0) ?_
  refine s_run rfl rfl (r_lo H 1 rfl rfl rfl ag61) ?_
  refine s_apsN (enc := (Value.int .u64)) (size := 8) (xs := []) H 0 rfl rfl rfl rfl (hS) (by omega) (fun _ => rfl) (by omega) (by omega) Try.underlying61 inf116 rfl ?_
  intro A1 c1 _ H'; simp only [List.set_cons_zero, List.set_cons_succ, List.take_succ_cons, List.take_zero, List.drop_succ_cons, List.drop_zero, List.cons_append, List.nil_append, List.append_nil, List.length_cons, List.length_nil, Nat.reduceAdd] at H'; clear H; have H := H'; clear H'
  refine s_run rfl rfl (r_fa0 rfl fo64_1) ?_
  refine s_st (u := .slice _ _ _) H 1 rfl rfl rfl rfl rfl rfl sz61 ?_
  clear H; intro _ H; simp only [jA, jB, jC, jD, jE, jF, jG, jH, jI, jJ, jK, Nat.reduceAdd] at H
  refine k_nc ?_
  refine k_sg ?_
  refine s_run rfl rfl (r_fa0 rfl fo64_0) ?_
  refine s_run rfl rfl (r_lo H 1 rfl rfl rfl ag61) ?_
  refine s_run rfl rfl (r_len rfl Try.underlying61) ?_
  refine s_mkN (Value.int .u64) 0 8 (m := m) H rfl rfl rfl (by omega) (by omega) (by omega) Try.underlying61 inf116 rfl (by omega) ?_
  intro bw _ H'; clear H; have H := H'; clear H'
  refine s_run rfl rfl (r_fa0 rfl fo64_2) ?_
  refine s_st (u := .slice _ _ _) H 2 rfl rfl rfl rfl rfl rfl sz61 ?_
  clear H; intro _ H; simp only [jA, jB, jC, jD, jE, jF, jG, jH, jI, jJ, jK, Nat.reduceAdd] at H
  refine k_nc ?_
  refine k_sg ?_
  refine s_run rfl rfl (r_fa0 rfl fo64_0) ?_
  refine s_run rfl rfl (r_lo H 2 rfl rfl rfl ag61) ?_
  refine s_run rfl rfl (r_len rfl Try.underlying61) ?_
  refine s_mk Value.bool false (m := m) H rfl rfl rfl (by omega) (by omega) (by omega) Try.underlying62 inf4 rfl ?_
  intro bd _ H'; clear H; have H := H'; clear H'
  refine s_run rfl rfl (r_fa0 rfl fo64_3) ?_
  refine s_st (u := .slice _ _ _) H 3 rfl rfl rfl rfl rfl rfl sz62 ?_
  clear H; intro _ H; simp only [jA, jB, jC, jD, jE, jF, jG, jH, jI, jJ, jK, Nat.reduceAdd] at H
  refine k_nc ?_
  refine k_sg ?_
  refine s_run rfl rfl (r_fa0 rfl fo64_0) ?_
  refine s_run rfl rfl (r_lo H 3 rfl rfl rfl ag61) ?_
  refine s_run rfl rfl (r_len rfl Try.underlying61) ?_
  refine s_mk Value.bool false (m := m) H rfl rfl rfl (by omega) (by omega) (by omega) Try.underlying62 inf4 rfl ?_
  intro bp _ H'; clear H; have H := H'; clear H'
  refine s_run rfl rfl (r_fa0 rfl fo64_4) ?_
  refine s_st (u := .slice _ _ _) H 4 rfl rfl rfl rfl rfl rfl sz62 ?_
  clear H; intro _ H; simp only [jA, jB, jC, jD, jE, jF, jG, jH, jI, jJ, jK, Nat.reduceAdd] at H
  refine k_nc ?_
  refine k_sg ?_
  refine s_run rfl rfl (r_fa0 rfl fo64_6) ?_
  refine s_st (u := .int _ _) H 4 rfl rfl rfl rfl rfl rfl sz3 ?_
  clear H; intro _ H; simp only [jA, jB, jC, jD, jE, jF, jG, jH, jI, jJ, jK, Nat.reduceAdd] at H
  refine k_nc ?_
  refine k_sg ?_
  refine s_run rfl rfl (r_la H 4 rfl rfl rfl ag64 sz64) ?_
  refine s_sw H 5 rfl rfl rfl rfl rfl rfl rfl sz64 ?_
  clear H; intro _ H; simp only [jA, jB, jC, jD, jE, jF, jG, jH, jI, jJ, jK, Nat.reduceAdd] at H
  refine k_nc ?_
  refine k_ret ?_
  refine fx1r rfl (rv_a H 5 rfl rfl rfl ag64 sz64) ?_
  have HF := Heap.step (A := [blk p3 [.slice B m cb, .slice none 0 0, .slice none 0 0, .slice none 0 0, .slice none 0 0, .int .i64 0, .int .i64 0, .bool false] 64, blk p2 nilDev 64]) (L := [vec (Value.int .u64) b fz 116]) (HB.perm (by
   refine (List.Perm.swap _ _ _).trans (List.Perm.cons _ (List.Perm.swap _ _ _)))) H (by rw [← hG]; exact fun _ h => h)
  simp only [List.cons_append, List.nil_append] at HF
  have HP := HF.pick 3 rfl
  simp only [List.eraseIdx_cons_succ, List.eraseIdx_cons_zero] at HP
  rw [Nat.zero_add] at HP
  obtain ⟨b1, hb1, _, HP⟩ := own_vecN (by omega) HP
  refine ⟨⟨B, cb, A1, c1, some ⟨bw, 0, none⟩, m, some ⟨bd, 0, none⟩, m, some ⟨bp, 0, none⟩, m, -1⟩, ?_, HF.clear, ⟨?_, ?_, ?_, ?_, ?_, .inr ⟨rfl, rfl⟩, ⟨hfl, hfl, by simp [Nv.load, hfl], by simp [Nv.load], by simp [Nv.load]⟩⟩⟩
  ·simp only [refE, Nv.load, Nat.zero_add]
  ·exact HP.sees 6 rfl hF hb (fun h => by omega)
  ·exact HP.sees 0 rfl hF hb1 (fun h => by have h' : fz.length ≠ 0 := h; omega)
  ·have := HP.sees 3 rfl hF (A := some ⟨bw, 0, none⟩) (m := 1) (fun _ => rfl) (fun _ => by simp)
   rw [Nat.mul_comm, ← hfl] at this
   exact this
  ·exact HP.sees 2 rfl hF (A := some ⟨bd, 0, none⟩) (m := 1) (fun _ => rfl) (fun _ => by simp)
  ·exact HP.sees 1 rfl hF (A := some ⟨bp, 0, none⟩) (m := 1) (fun _ => rfl) (fun _ => by simp)
end Go.Proofs.Ytlakbclnilakbaa
end

section
namespace Go.Proofs.Ytlakbclnilakbaa
def sIns : List Int → Int → List Int
 | [], x => [x]
 | y :: l, x => if y < x then y :: sIns l x else x :: y :: l
theorem sIns_at : ∀ (l : List Int) (x : Int) (n : Nat), n ≤ l.length → (∀ j y, j < n → l[j]? = some y → y < x) → (∀ y, l[n]? = some y → ¬ y < x) → sIns l x = l.take n ++ x :: l.drop n
 | [], x, n, hn, _, _ => by simp at hn; subst hn; rfl
 | y :: l, x, 0, _, _, h => by
  have := h y rfl
  rw [sIns, if_neg this]; rfl
 | y :: l, x, n + 1, hn, h1, h2 => by
  rw [sIns, if_pos (h1 0 y (by omega) rfl), sIns_at l x n (by simpa using hn) (fun j z hj hz => h1 (j + 1) z (by omega) (by simpa using hz)) (fun z hz => h2 z (by simpa using hz))]
  rfl
theorem sIns_len : ∀ (l : List Int) (x : Int), (sIns l x).length = l.length + 1
 | [], x => rfl
 | y :: l, x => by
  unfold sIns
  split
  ·simp only [List.length_cons]; rw [sIns_len l x]
  ·rfl
theorem sIns_perm : ∀ (l : List Int) (x : Int), (sIns l x).Perm (x :: l)
 | [], x => .refl _
 | y :: l, x => by
  unfold sIns
  split
  ·exact ((sIns_perm l x).cons y).trans (.swap _ _ _)
  ·exact .refl _
theorem sIns_sorted : ∀ (l : List Int) (x : Int), l.Pairwise (· ≤ ·) → (sIns l x).Pairwise (· ≤ ·)
 | [], x, _ => by simp [sIns]
 | y :: l, x, h => by
  obtain ⟨h1, h2⟩ := List.pairwise_cons.1 h
  unfold sIns
  split
  ·refine List.pairwise_cons.2 ⟨fun z hz => ?_, sIns_sorted l x h2⟩
   rcases List.mem_cons.1 ((sIns_perm l x).mem_iff.1 hz) with rfl | hz
   ·omega
   ·exact h1 z hz
  ·refine List.pairwise_cons.2 ⟨fun z hz => ?_, h⟩
   rcases List.mem_cons.1 hz with rfl | hz
   ·omega
   ·have := h1 z hz; omega
theorem sIns_fold (l : List Int) : l.foldl sIns [] = srt l := by
 have : ∀ (l s : List Int), s.Pairwise (· ≤ ·) → (l.foldl sIns s).Pairwise (· ≤ ·) ∧ (l.foldl sIns s).Perm (s ++ l) := fun l => by
  induction l with
  | nil => intro s h; exact ⟨h, by simp⟩
  | cons x l ih =>
   intro s h
   obtain ⟨h1, h2⟩ := ih (sIns s x) (sIns_sorted s x h)
   refine ⟨h1, h2.trans ?_⟩
   have h3 := (sIns_perm s x).append_right l
   refine h3.trans ?_
   rw [List.cons_append]
   exact List.perm_middle.symm
 obtain ⟨h1, h2⟩ := this l [] (by simp)
 exact sorted_eq (h2.trans (srt_perm l).symm) h1 (srt_sorted l)
end Go.Proofs.Ytlakbclnilakbaa
end

section
namespace Go.Proofs.Ytlakbclnilakbaa
open Go.RowKit
set_option maxRecDepth 100000
set_option maxHeartbeats 4000000
theorem rODec' (a x : Int) (w : World) (ha : -9223372036854775808 ≤ a ∧ a ≤ 9223372036854775807) (hx : 0 ≤ x ∧ x ≤ 18446744073709551615) :
  Calls Try.prog 93 [.int .i64 a, .int .u64 x].toArray w fun e w' => e = .returned (.tuple [.agg [.int .i64 (Oh.decP x a), .int .i64 (Oh.decD x a)].toArray, .int .i64 (Oh.decE x a)].toArray) ∧ Only [] w w' :=
 (rODec_any a x w ha.1 ha.2 hx.1 hx.2).mono fun e w' h => ⟨h.1, Only.of_below h.2 _⟩
theorem rOSize' (p d : Int) (w : World) (hp : 0 ≤ p ∧ p ≤ 1000000) (hd : 0 ≤ d ∧ d ≤ 1000000) :
  Calls Try.prog 86 [.agg [.int .i64 p, .int .i64 d].toArray].toArray w fun e w' => e = .returned (.int .i64 (Cl.size p d)) ∧ Only [] w w' :=
 (rOSize_any p d w (by omega) (by omega) (by omega) (by omega)).mono fun e w' h => ⟨h.1, Only.of_below h.2 _⟩
theorem d15Ptr (x : Int) (w : World) (hx : 0 ≤ x ∧ x ≤ 18446744073709551615) :
  Calls Try.prog 65 [.int .u64 x].toArray w fun e w' => e = .returned (.int .i64 (min x 1099511627776)) ∧ Only [] w w' := by
 have H := Heap.nil w
 by_cases h : x > 1099511627776
 ·rw [show min x 1099511627776 = 1099511627776 by omega]
  refine k_in (N := 7) Try.func65 rfl rfl rfl ?_
  refine k_sg ?_
  refine s_run rfl rfl (rai rfl) ?_
  refine k_nc ?_
  refine k_seq ?_
  refine k_sg ?_
  refine s_run rfl rfl (rmi rfl) ?_
  refine s_run rfl rfl (r_gtrT rfl rfl (by omega)) ?_
  refine k_nc ?_
  refine k_t rfl ?_
  refine k_sg ?_
  refine s_run rfl rfl (rai rfl) ?_
  refine k_nc ?_
  refine k_ret ?_
  refine c_ret ?_
  refine fin1r (v := .int _ _) rfl rfl ?_
  exact ⟨rfl, H.only⟩
 ·rw [show min x 1099511627776 = x by omega]
  refine k_in (N := 7) Try.func65 rfl rfl rfl ?_
  refine k_sg ?_
  refine s_run rfl rfl (rai rfl) ?_
  refine k_nc ?_
  refine k_seq ?_
  refine k_sg ?_
  refine s_run rfl rfl (rmi rfl) ?_
  refine s_run rfl rfl (r_gtrF rfl rfl (by omega)) ?_
  refine k_nc ?_
  refine k_f rfl ?_
  refine k_skip ?_
  refine c_norm ?_
  refine k_sg ?_
  refine s_run rfl rfl (rmi rfl) ?_
  refine s_run rfl rfl (r_cv rfl (by kernel_rfl) Try.underlying3 (wI (by omega))) ?_
  refine s_run rfl rfl (rai rfl) ?_
  refine k_nc ?_
  refine k_ret ?_
  refine fin1r (v := .int _ _) rfl rfl ?_
  exact ⟨rfl, H.only⟩
section
variable {s : RefS} {d : Nv.D} {m : Nat} {w : World}
theorem d15Head (hR : RefOk w [] s d m) (hm : m ≤ 100000) (hw : Ob.W64 d.cache) (a : Int) (ha : -9223372036854775808 ≤ a ∧ a ≤ 9223372036854775807) :
  Calls Try.prog 64 [.agg (refCells s d m).toArray, .int .i64 a].toArray w fun e w' => e = .returned (.tuple [.agg [.int .i64 (Ob.hp d.cache a), .int .i64 (Ob.hq d.cache a)].toArray, .bool (Ob.hd d.cache a)].toArray) ∧ Only [] w w' := by
 have H := Heap.nil w
 have hlc := hR.ok.hc
 unfold refCells
 by_cases hin : 0 ≤ a ∧ a < (d.cache.length : Int)
 ·have hG := fun {W : World} (h : Only [] w W) => rGet s.A0 m s.c0 a d.cache W (hR.now.later h (by simp)) hlc hm
  have hx := Ob.get_bd hw a
  have hD := fun (W : World) => rODec' a (Nv.get d.cache a) W ha hx
  have hb := Ob.dec_bd (Nv.get d.cache a) a hx.1
  by_cases he : Oh.decE (Nv.get d.cache a) a = 0
  ·have hS := fun (W : World) => rOSize' (Oh.decP (Nv.get d.cache a) a) (Oh.decD (Nv.get d.cache a) a) W (by omega) (by omega)
   have hsb := Cl.size_bd (Oh.decP (Nv.get d.cache a) a) (Oh.decD (Nv.get d.cache a) a)
   rw [he] at hD
   by_cases hs : Cl.size (Oh.decP (Nv.get d.cache a) a) (Oh.decD (Nv.get d.cache a) a) ≤ (d.cache.length : Int) - a
   ·have hh := Ob.hd_mk hin he hs
    unfold Ob.hp Ob.hq
    rw [if_pos hh, if_pos hh, hh]
    generalize Oh.decP (Nv.get d.cache a) a = P at *
    generalize Oh.decD (Nv.get d.cache a) a = D at *
    refine k_in (N := 43) Try.func64 rfl rfl rfl ?_
    refine k_sg ?_
    refine s_box H rfl rfl ?_
    intro p2 _ H'; clear H; have H := H'; clear H'
    refine s_al H rfl inf105 ?_
    intro p4 _ H'; clear H; have H := H'; clear H'
    refine s_run rfl rfl (rab rfl) ?_
    refine k_nc ?_
    refine k_seq ?_
    refine k_sg ?_
    refine s_run rfl rfl (rmi rfl) ?_
    refine s_run rfl rfl (r_lssF rfl rfl (by omega)) ?_
    refine s_run rfl rfl (rmb rfl) ?_
    refine s_run rfl (g_on 10 (by kernel_rfl) rfl) (rmi rfl) ?_
    refine s_run rfl (g_on 10 (by kernel_rfl) rfl) (r_fa0 rfl fo64_0) ?_
    refine s_run rfl (g_on 10 (by kernel_rfl) rfl) (r_lo H 1 rfl rfl rfl ag61) ?_
    refine s_run rfl (g_on 10 (by kernel_rfl) rfl) (r_len rfl Try.underlying61) ?_
    refine s_run rfl (g_on 10 (by kernel_rfl) rfl) (r_mul rfl rfl (wI (by omega))) ?_
    refine s_run rfl (g_on 10 (by kernel_rfl) rfl) (r_geqF rfl rfl (by omega)) ?_
    refine s_run rfl rfl (r_pkF (v := .bool _) rfl rfl) ?_
    refine k_nc ?_
    refine k_f rfl ?_
    refine k_skip ?_
    refine c_norm ?_
    refine k_sg ?_
    refine s_run rfl rfl (rmi rfl) ?_
    refine s_run rfl rfl (r_fa0 rfl fo64_0) ?_
    refine s_run rfl rfl (r_lo H 1 rfl rfl rfl ag61) ?_
    refine s_run rfl rfl (rmi rfl) ?_
    refine s_call rfl (hG H.only) (ca66 rfl) ?_
    rintro e W1 ⟨rfl, H'⟩
    refine ⟨_, rfl, ?_⟩
    have H := H.same H'; clear H'
    refine s_call rfl (hD _) (ca93 rfl) ?_
    rintro e W1 ⟨rfl, H'⟩
    refine ⟨_, rfl, ?_⟩
    have H := H.same H'; clear H'
    refine s_run rfl rfl (rmt rfl) ?_
    refine s_run rfl rfl (r_ext (v := .agg _) rfl rfl) ?_
    refine s_run rfl rfl (r_ext (v := .int _ _) rfl rfl) ?_
    refine s_al H rfl inf105 ?_
    intro p6 _ H'; clear H; have H := H'; clear H'
    refine s_sw H 0 rfl rfl rfl rfl rfl rfl rfl sz105 ?_
    clear H; intro _ H; simp only [jA, jB, jC, jD, jE, jF, jG, jH, jI, jJ, jK, Nat.reduceAdd] at H
    refine s_run rfl rfl (rai rfl) ?_
    refine k_nc ?_
    refine k_seq ?_
    refine k_seq ?_
    refine k_trF mixed ?_; have H' := H.drew; clear H; have H := H'; clear H'
    refine tqh 0 rfl rfl rfl (fun _ hS => r_mv (v := .int _ _) rfl) trivial ?_
    refine tqh 1 rfl rfl rfl (fun _ hS => r_neqF rfl rfl (by omega)) trivial ?_
    refine tqh 2 rfl rfl rfl (fun _ hS => r_mv (v := .bool _) rfl) trivial ?_
    refine tqh 5 rfl rfl (g_on 30 (by kernel_rfl) rfl) (fun _ hS => r_fa0 rfl fo64_0) trivial ?_
    refine tqh 9 rfl rfl (g_on 30 (by kernel_rfl) rfl) (fun _ hS => r_mv (v := .int _ _) rfl) trivial ?_
    refine t_up2 3 6 (by kernel_rfl) ?_ ?_
    ·refine up_mk rfl ?_
     refine s_run rfl (g_on 30 (by kernel_rfl) rfl) (r_la H 0 rfl rfl rfl ag105 sz105) ?_
     refine k_nil ?_
     refine t_on trivial ?_
     refine t_up2 4 6 (by kernel_rfl) ?_ ?_
     ·refine up_mk rfl ?_
      refine s_call (g_on 30 (by kernel_rfl) rfl) (hS _) (ca86 rfl) ?_
      rintro e W1 ⟨rfl, H'⟩
      refine ⟨_, rfl, ?_⟩
      have H := H.same H'; clear H'
      refine k_nil ?_
      refine t_on trivial ?_
      refine t_up1 6 (by kernel_rfl) ?_
      refine up_mk rfl ?_
      refine s_run rfl (g_on 30 (by kernel_rfl) rfl) (r_lo H 2 rfl rfl rfl ag61) ?_
      refine k_nil ?_
      refine t_on trivial ?_
      refine tqh 7 rfl rfl (g_on 30 (by kernel_rfl) rfl) (fun _ hS => r_len rfl Try.underlying61) trivial ?_
      refine tqh 8 rfl rfl (g_on 30 (by kernel_rfl) rfl) (fun _ hS => r_mul rfl rfl (wI (by omega))) trivial ?_
      refine tqh 10 rfl rfl (g_on 30 (by kernel_rfl) rfl) (fun _ hS => r_sub rfl rfl (wI (by omega))) trivial ?_
      refine tqh 11 rfl rfl (g_on 30 (by kernel_rfl) rfl) (fun _ hS => r_gtrF rfl rfl (by omega)) trivial ?_
      refine tqh 12 rfl rfl rfl (fun _ hS => r_pkF (v := .bool _) rfl rfl) trivial ?_
      refine t_done (by kernel_rfl) ?_
      refine c_norm ?_
      refine k_f rfl ?_
      refine k_skip ?_
      refine c_norm ?_
      refine k_sg ?_
      refine s_run rfl rfl (r_la H 0 rfl rfl rfl ag105 sz105) ?_
      refine s_sw H 1 rfl rfl rfl rfl rfl rfl rfl sz105 ?_
      clear H; intro _ H; simp only [jA, jB, jC, jD, jE, jF, jG, jH, jI, jJ, jK, Nat.reduceAdd] at H
      refine s_run rfl rfl (rab rfl) ?_
      refine k_nc ?_
      refine k_ret ?_
      refine fx2r rfl (rv_a H 1 rfl rfl rfl ag105 sz105) (rv_t (v := .bool _) rfl) ?_
      exact ⟨rfl, H.only⟩
     ·refine up_mk rfl ?_
      refine s_run rfl (g_on 30 (by kernel_rfl) rfl) (r_lo H 2 rfl rfl rfl ag61) ?_
      refine k_nil ?_
      refine t_on trivial ?_
      refine tqh 7 rfl rfl (g_on 30 (by kernel_rfl) rfl) (fun _ hS => r_len rfl Try.underlying61) trivial ?_
      refine tqh 8 rfl rfl (g_on 30 (by kernel_rfl) rfl) (fun _ hS => r_mul rfl rfl (wI (by omega))) trivial ?_
      refine tqh 10 rfl rfl (g_on 30 (by kernel_rfl) rfl) (fun _ hS => r_sub rfl rfl (wI (by omega))) trivial ?_
      refine t_up1 4 (by kernel_rfl) ?_
      refine up_mk rfl ?_
      refine s_call (g_on 30 (by kernel_rfl) rfl) (hS _) (ca86 rfl) ?_
      rintro e W1 ⟨rfl, H'⟩
      refine ⟨_, rfl, ?_⟩
      have H := H.same H'; clear H'
      refine k_nil ?_
      refine t_on trivial ?_
      refine tqh 11 rfl rfl (g_on 30 (by kernel_rfl) rfl) (fun _ hS => r_gtrF rfl rfl (by omega)) trivial ?_
      refine tqh 12 rfl rfl rfl (fun _ hS => r_pkF (v := .bool _) rfl rfl) trivial ?_
      refine t_done (by kernel_rfl) ?_
      refine c_norm ?_
      refine k_f rfl ?_
      refine k_skip ?_
      refine c_norm ?_
      refine k_sg ?_
      refine s_run rfl rfl (r_la H 0 rfl rfl rfl ag105 sz105) ?_
      refine s_sw H 1 rfl rfl rfl rfl rfl rfl rfl sz105 ?_
      clear H; intro _ H; simp only [jA, jB, jC, jD, jE, jF, jG, jH, jI, jJ, jK, Nat.reduceAdd] at H
      refine s_run rfl rfl (rab rfl) ?_
      refine k_nc ?_
      refine k_ret ?_
      refine fx2r rfl (rv_a H 1 rfl rfl rfl ag105 sz105) (rv_t (v := .bool _) rfl) ?_
      exact ⟨rfl, H.only⟩
    ·refine up_mk rfl ?_
     refine s_run rfl (g_on 30 (by kernel_rfl) rfl) (r_lo H 2 rfl rfl rfl ag61) ?_
     refine k_nil ?_
     refine t_on trivial ?_
     refine tqh 7 rfl rfl (g_on 30 (by kernel_rfl) rfl) (fun _ hS => r_len rfl Try.underlying61) trivial ?_
     refine tqh 8 rfl rfl (g_on 30 (by kernel_rfl) rfl) (fun _ hS => r_mul rfl rfl (wI (by omega))) trivial ?_
     refine tqh 10 rfl rfl (g_on 30 (by kernel_rfl) rfl) (fun _ hS => r_sub rfl rfl (wI (by omega))) trivial ?_
     refine t_up1 3 (by kernel_rfl) ?_
     refine up_mk rfl ?_
     refine s_run rfl (g_on 30 (by kernel_rfl) rfl) (r_la H 0 rfl rfl rfl ag105 sz105) ?_
     refine k_nil ?_
     refine t_on trivial ?_
     refine t_up1 4 (by kernel_rfl) ?_
     refine up_mk rfl ?_
     refine s_call (g_on 30 (by kernel_rfl) rfl) (hS _) (ca86 rfl) ?_
     rintro e W1 ⟨rfl, H'⟩
     refine ⟨_, rfl, ?_⟩
     have H := H.same H'; clear H'
     refine k_nil ?_
     refine t_on trivial ?_
     refine tqh 11 rfl rfl (g_on 30 (by kernel_rfl) rfl) (fun _ hS => r_gtrF rfl rfl (by omega)) trivial ?_
     refine tqh 12 rfl rfl rfl (fun _ hS => r_pkF (v := .bool _) rfl rfl) trivial ?_
     refine t_done (by kernel_rfl) ?_
     refine c_norm ?_
     refine k_f rfl ?_
     refine k_skip ?_
     refine c_norm ?_
     refine k_sg ?_
     refine s_run rfl rfl (r_la H 0 rfl rfl rfl ag105 sz105) ?_
     refine s_sw H 1 rfl rfl rfl rfl rfl rfl rfl sz105 ?_
     clear H; intro _ H; simp only [jA, jB, jC, jD, jE, jF, jG, jH, jI, jJ, jK, Nat.reduceAdd] at H
     refine s_run rfl rfl (rab rfl) ?_
     refine k_nc ?_
     refine k_ret ?_
     refine fx2r rfl (rv_a H 1 rfl rfl rfl ag105 sz105) (rv_t (v := .bool _) rfl) ?_
     exact ⟨rfl, H.only⟩
   ·have hh := Ob.hd_far hs
    unfold Ob.hp Ob.hq
    rw [hh, if_neg (by simp), if_neg (by simp)]
    generalize Oh.decP (Nv.get d.cache a) a = P at *
    generalize Oh.decD (Nv.get d.cache a) a = D at *
    refine k_in (N := 43) Try.func64 rfl rfl rfl ?_
    refine k_sg ?_
    refine s_box H rfl rfl ?_
    intro p2 _ H'; clear H; have H := H'; clear H'
    refine s_al H rfl inf105 ?_
    intro p4 _ H'; clear H; have H := H'; clear H'
    refine s_run rfl rfl (rab rfl) ?_
    refine k_nc ?_
    refine k_seq ?_
    refine k_sg ?_
    refine s_run rfl rfl (rmi rfl) ?_
    refine s_run rfl rfl (r_lssF rfl rfl (by omega)) ?_
    refine s_run rfl rfl (rmb rfl) ?_
    refine s_run rfl (g_on 10 (by kernel_rfl) rfl) (rmi rfl) ?_
    refine s_run rfl (g_on 10 (by kernel_rfl) rfl) (r_fa0 rfl fo64_0) ?_
    refine s_run rfl (g_on 10 (by kernel_rfl) rfl) (r_lo H 1 rfl rfl rfl ag61) ?_
    refine s_run rfl (g_on 10 (by kernel_rfl) rfl) (r_len rfl Try.underlying61) ?_
    refine s_run rfl (g_on 10 (by kernel_rfl) rfl) (r_mul rfl rfl (wI (by omega))) ?_
    refine s_run rfl (g_on 10 (by kernel_rfl) rfl) (r_geqF rfl rfl (by omega)) ?_
    refine s_run rfl rfl (r_pkF (v := .bool _) rfl rfl) ?_
    refine k_nc ?_
    refine k_f rfl ?_
    refine k_skip ?_
    refine c_norm ?_
    refine k_sg ?_
    refine s_run rfl rfl (rmi rfl) ?_
    refine s_run rfl rfl (r_fa0 rfl fo64_0) ?_
    refine s_run rfl rfl (r_lo H 1 rfl rfl rfl ag61) ?_
    refine s_run rfl rfl (rmi rfl) ?_
    refine s_call rfl (hG H.only) (ca66 rfl) ?_
    rintro e W1 ⟨rfl, H'⟩
    refine ⟨_, rfl, ?_⟩
    have H := H.same H'; clear H'
    refine s_call rfl (hD _) (ca93 rfl) ?_
    rintro e W1 ⟨rfl, H'⟩
    refine ⟨_, rfl, ?_⟩
    have H := H.same H'; clear H'
    refine s_run rfl rfl (rmt rfl) ?_
    refine s_run rfl rfl (r_ext (v := .agg _) rfl rfl) ?_
    refine s_run rfl rfl (r_ext (v := .int _ _) rfl rfl) ?_
    refine s_al H rfl inf105 ?_
    intro p6 _ H'; clear H; have H := H'; clear H'
    refine s_sw H 0 rfl rfl rfl rfl rfl rfl rfl sz105 ?_
    clear H; intro _ H; simp only [jA, jB, jC, jD, jE, jF, jG, jH, jI, jJ, jK, Nat.reduceAdd] at H
    refine s_run rfl rfl (rai rfl) ?_
    refine k_nc ?_
    refine k_seq ?_
    refine k_seq ?_
    refine k_trF mixed ?_; have H' := H.drew; clear H; have H := H'; clear H'
    refine tqh 0 rfl rfl rfl (fun _ hS => r_mv (v := .int _ _) rfl) trivial ?_
    refine tqh 1 rfl rfl rfl (fun _ hS => r_neqF rfl rfl (by omega)) trivial ?_
    refine tqh 2 rfl rfl rfl (fun _ hS => r_mv (v := .bool _) rfl) trivial ?_
    refine tqh 5 rfl rfl (g_on 30 (by kernel_rfl) rfl) (fun _ hS => r_fa0 rfl fo64_0) trivial ?_
    refine tqh 9 rfl rfl (g_on 30 (by kernel_rfl) rfl) (fun _ hS => r_mv (v := .int _ _) rfl) trivial ?_
    refine t_up2 3 6 (by kernel_rfl) ?_ ?_
    ·refine up_mk rfl ?_
     refine s_run rfl (g_on 30 (by kernel_rfl) rfl) (r_la H 0 rfl rfl rfl ag105 sz105) ?_
     refine k_nil ?_
     refine t_on trivial ?_
     refine t_up2 4 6 (by kernel_rfl) ?_ ?_
     ·refine up_mk rfl ?_
      refine s_call (g_on 30 (by kernel_rfl) rfl) (hS _) (ca86 rfl) ?_
      rintro e W1 ⟨rfl, H'⟩
      refine ⟨_, rfl, ?_⟩
      have H := H.same H'; clear H'
      refine k_nil ?_
      refine t_on trivial ?_
      refine t_up1 6 (by kernel_rfl) ?_
      refine up_mk rfl ?_
      refine s_run rfl (g_on 30 (by kernel_rfl) rfl) (r_lo H 2 rfl rfl rfl ag61) ?_
      refine k_nil ?_
      refine t_on trivial ?_
      refine tqh 7 rfl rfl (g_on 30 (by kernel_rfl) rfl) (fun _ hS => r_len rfl Try.underlying61) trivial ?_
      refine tqh 8 rfl rfl (g_on 30 (by kernel_rfl) rfl) (fun _ hS => r_mul rfl rfl (wI (by omega))) trivial ?_
      refine tqh 10 rfl rfl (g_on 30 (by kernel_rfl) rfl) (fun _ hS => r_sub rfl rfl (wI (by omega))) trivial ?_
      refine tqh 11 rfl rfl (g_on 30 (by kernel_rfl) rfl) (fun _ hS => r_gtrT rfl rfl (by omega)) trivial ?_
      refine tqh 12 rfl rfl rfl (fun _ hS => r_pkF (v := .bool _) rfl rfl) trivial ?_
      refine t_done (by kernel_rfl) ?_
      refine c_norm ?_
      refine k_t rfl ?_
      refine k_sg ?_
      refine s_run rfl rfl (r_bd (bd105 ) rfl) ?_
      refine s_sw H 1 rfl rfl rfl rfl rfl rfl rfl sz105 ?_
      clear H; intro _ H; simp only [jA, jB, jC, jD, jE, jF, jG, jH, jI, jJ, jK, Nat.reduceAdd] at H
      refine s_run rfl rfl (rab rfl) ?_
      refine k_nc ?_
      refine k_ret ?_
      refine c_ret ?_
      refine fx2r rfl (rv_a H 1 rfl rfl rfl ag105 sz105) (rv_t (v := .bool _) rfl) ?_
      exact ⟨rfl, H.only⟩
     ·refine up_mk rfl ?_
      refine s_run rfl (g_on 30 (by kernel_rfl) rfl) (r_lo H 2 rfl rfl rfl ag61) ?_
      refine k_nil ?_
      refine t_on trivial ?_
      refine tqh 7 rfl rfl (g_on 30 (by kernel_rfl) rfl) (fun _ hS => r_len rfl Try.underlying61) trivial ?_
      refine tqh 8 rfl rfl (g_on 30 (by kernel_rfl) rfl) (fun _ hS => r_mul rfl rfl (wI (by omega))) trivial ?_
      refine tqh 10 rfl rfl (g_on 30 (by kernel_rfl) rfl) (fun _ hS => r_sub rfl rfl (wI (by omega))) trivial ?_
      refine t_up1 4 (by kernel_rfl) ?_
      refine up_mk rfl ?_
      refine s_call (g_on 30 (by kernel_rfl) rfl) (hS _) (ca86 rfl) ?_
      rintro e W1 ⟨rfl, H'⟩
      refine ⟨_, rfl, ?_⟩
      have H := H.same H'; clear H'
      refine k_nil ?_
      refine t_on trivial ?_
      refine tqh 11 rfl rfl (g_on 30 (by kernel_rfl) rfl) (fun _ hS => r_gtrT rfl rfl (by omega)) trivial ?_
      refine tqh 12 rfl rfl rfl (fun _ hS => r_pkF (v := .bool _) rfl rfl) trivial ?_
      refine t_done (by kernel_rfl) ?_
      refine c_norm ?_
      refine k_t rfl ?_
      refine k_sg ?_
      refine s_run rfl rfl (r_bd (bd105 ) rfl) ?_
      refine s_sw H 1 rfl rfl rfl rfl rfl rfl rfl sz105 ?_
      clear H; intro _ H; simp only [jA, jB, jC, jD, jE, jF, jG, jH, jI, jJ, jK, Nat.reduceAdd] at H
      refine s_run rfl rfl (rab rfl) ?_
      refine k_nc ?_
      refine k_ret ?_
      refine c_ret ?_
      refine fx2r rfl (rv_a H 1 rfl rfl rfl ag105 sz105) (rv_t (v := .bool _) rfl) ?_
      exact ⟨rfl, H.only⟩
    ·refine up_mk rfl ?_
     refine s_run rfl (g_on 30 (by kernel_rfl) rfl) (r_lo H 2 rfl rfl rfl ag61) ?_
     refine k_nil ?_
     refine t_on trivial ?_
     refine tqh 7 rfl rfl (g_on 30 (by kernel_rfl) rfl) (fun _ hS => r_len rfl Try.underlying61) trivial ?_
     refine tqh 8 rfl rfl (g_on 30 (by kernel_rfl) rfl) (fun _ hS => r_mul rfl rfl (wI (by omega))) trivial ?_
     refine tqh 10 rfl rfl (g_on 30 (by kernel_rfl) rfl) (fun _ hS => r_sub rfl rfl (wI (by omega))) trivial ?_
     refine t_up1 3 (by kernel_rfl) ?_
     refine up_mk rfl ?_
     refine s_run rfl (g_on 30 (by kernel_rfl) rfl) (r_la H 0 rfl rfl rfl ag105 sz105) ?_
     refine k_nil ?_
     refine t_on trivial ?_
     refine t_up1 4 (by kernel_rfl) ?_
     refine up_mk rfl ?_
     refine s_call (g_on 30 (by kernel_rfl) rfl) (hS _) (ca86 rfl) ?_
     rintro e W1 ⟨rfl, H'⟩
     refine ⟨_, rfl, ?_⟩
     have H := H.same H'; clear H'
     refine k_nil ?_
     refine t_on trivial ?_
     refine tqh 11 rfl rfl (g_on 30 (by kernel_rfl) rfl) (fun _ hS => r_gtrT rfl rfl (by omega)) trivial ?_
     refine tqh 12 rfl rfl rfl (fun _ hS => r_pkF (v := .bool _) rfl rfl) trivial ?_
     refine t_done (by kernel_rfl) ?_
     refine c_norm ?_
     refine k_t rfl ?_
     refine k_sg ?_
     refine s_run rfl rfl (r_bd (bd105 ) rfl) ?_
     refine s_sw H 1 rfl rfl rfl rfl rfl rfl rfl sz105 ?_
     clear H; intro _ H; simp only [jA, jB, jC, jD, jE, jF, jG, jH, jI, jJ, jK, Nat.reduceAdd] at H
     refine s_run rfl rfl (rab rfl) ?_
     refine k_nc ?_
     refine k_ret ?_
     refine c_ret ?_
     refine fx2r rfl (rv_a H 1 rfl rfl rfl ag105 sz105) (rv_t (v := .bool _) rfl) ?_
     exact ⟨rfl, H.only⟩
  ·have hh := Ob.hd_bad he
   unfold Ob.hp Ob.hq
   rw [hh, if_neg (by simp), if_neg (by simp)]
   generalize Oh.decP (Nv.get d.cache a) a = P at *
   generalize Oh.decD (Nv.get d.cache a) a = D at *
   refine k_in (N := 43) Try.func64 rfl rfl rfl ?_
   refine k_sg ?_
   refine s_box H rfl rfl ?_
   intro p2 _ H'; clear H; have H := H'; clear H'
   refine s_al H rfl inf105 ?_
   intro p4 _ H'; clear H; have H := H'; clear H'
   refine s_run rfl rfl (rab rfl) ?_
   refine k_nc ?_
   refine k_seq ?_
   refine k_sg ?_
   refine s_run rfl rfl (rmi rfl) ?_
   refine s_run rfl rfl (r_lssF rfl rfl (by omega)) ?_
   refine s_run rfl rfl (rmb rfl) ?_
   refine s_run rfl (g_on 10 (by kernel_rfl) rfl) (rmi rfl) ?_
   refine s_run rfl (g_on 10 (by kernel_rfl) rfl) (r_fa0 rfl fo64_0) ?_
   refine s_run rfl (g_on 10 (by kernel_rfl) rfl) (r_lo H 1 rfl rfl rfl ag61) ?_
   refine s_run rfl (g_on 10 (by kernel_rfl) rfl) (r_len rfl Try.underlying61) ?_
   refine s_run rfl (g_on 10 (by kernel_rfl) rfl) (r_mul rfl rfl (wI (by omega))) ?_
   refine s_run rfl (g_on 10 (by kernel_rfl) rfl) (r_geqF rfl rfl (by omega)) ?_
   refine s_run rfl rfl (r_pkF (v := .bool _) rfl rfl) ?_
   refine k_nc ?_
   refine k_f rfl ?_
   refine k_skip ?_
   refine c_norm ?_
   refine k_sg ?_
   refine s_run rfl rfl (rmi rfl) ?_
   refine s_run rfl rfl (r_fa0 rfl fo64_0) ?_
   refine s_run rfl rfl (r_lo H 1 rfl rfl rfl ag61) ?_
   refine s_run rfl rfl (rmi rfl) ?_
   refine s_call rfl (hG H.only) (ca66 rfl) ?_
   rintro e W1 ⟨rfl, H'⟩
   refine ⟨_, rfl, ?_⟩
   have H := H.same H'; clear H'
   refine s_call rfl (hD _) (ca93 rfl) ?_
   rintro e W1 ⟨rfl, H'⟩
   refine ⟨_, rfl, ?_⟩
   have H := H.same H'; clear H'
   refine s_run rfl rfl (rmt rfl) ?_
   refine s_run rfl rfl (r_ext (v := .agg _) rfl rfl) ?_
   refine s_run rfl rfl (r_ext (v := .int _ _) rfl rfl) ?_
   refine s_al H rfl inf105 ?_
   intro p6 _ H'; clear H; have H := H'; clear H'
   refine s_sw H 0 rfl rfl rfl rfl rfl rfl rfl sz105 ?_
   clear H; intro _ H; simp only [jA, jB, jC, jD, jE, jF, jG, jH, jI, jJ, jK, Nat.reduceAdd] at H
   refine s_run rfl rfl (rai rfl) ?_
   refine k_nc ?_
   refine k_seq ?_
   refine k_seq ?_
   refine k_trF mixed ?_; have H' := H.drew; clear H; have H := H'; clear H'
   refine tqh 0 rfl rfl rfl (fun _ hS => r_mv (v := .int _ _) rfl) trivial ?_
   refine tqh 1 rfl rfl rfl (fun _ hS => r_neqT rfl rfl (by omega)) trivial ?_
   refine tqh 2 rfl rfl rfl (fun _ hS => r_mv (v := .bool _) rfl) trivial ?_
   refine toh 3 rfl rfl (g_off 30 (by kernel_rfl) rfl rfl) trivial ?_
   refine toh 4 rfl rfl (g_off 30 (by kernel_rfl) rfl rfl) trivial ?_
   refine toh 5 rfl rfl (g_off 30 (by kernel_rfl) rfl rfl) trivial ?_
   refine toh 6 rfl rfl (g_off 30 (by kernel_rfl) rfl rfl) trivial ?_
   refine toh 7 rfl rfl (g_off 30 (by kernel_rfl) rfl rfl) trivial ?_
   refine toh 8 rfl rfl (g_off 30 (by kernel_rfl) rfl rfl) trivial ?_
   refine toh 9 rfl rfl (g_off 30 (by kernel_rfl) rfl rfl) trivial ?_
   refine toh 10 rfl rfl (g_off 30 (by kernel_rfl) rfl rfl) trivial ?_
   refine toh 11 rfl rfl (g_off 30 (by kernel_rfl) rfl rfl) trivial ?_
   refine tqh 12 rfl rfl rfl (fun _ hS => r_pkT (v := .bool _) rfl rfl) trivial ?_
   refine t_done (by kernel_rfl) ?_
   refine c_norm ?_
   refine k_t rfl ?_
   refine k_sg ?_
   refine s_run rfl rfl (r_bd (bd105 ) rfl) ?_
   refine s_sw H 1 rfl rfl rfl rfl rfl rfl rfl sz105 ?_
   clear H; intro _ H; simp only [jA, jB, jC, jD, jE, jF, jG, jH, jI, jJ, jK, Nat.reduceAdd] at H
   refine s_run rfl rfl (rab rfl) ?_
   refine k_nc ?_
   refine k_ret ?_
   refine c_ret ?_
   refine fx2r rfl (rv_a H 1 rfl rfl rfl ag105 sz105) (rv_t (v := .bool _) rfl) ?_
   exact ⟨rfl, H.only⟩
 ·have hh := Ob.hd_out hin
  unfold Ob.hp Ob.hq
  rw [hh, if_neg (by simp), if_neg (by simp)]
  by_cases h0 : a < 0
  ·refine k_in (N := 43) Try.func64 rfl rfl rfl ?_
   refine k_sg ?_
   refine s_box H rfl rfl ?_
   intro p2 _ H'; clear H; have H := H'; clear H'
   refine s_al H rfl inf105 ?_
   intro p4 _ H'; clear H; have H := H'; clear H'
   refine s_run rfl rfl (rab rfl) ?_
   refine k_nc ?_
   refine k_seq ?_
   refine k_sg ?_
   refine s_run rfl rfl (rmi rfl) ?_
   refine s_run rfl rfl (r_lssT rfl rfl (by omega)) ?_
   refine s_run rfl rfl (rmb rfl) ?_
   refine s_off rfl (g_off 10 (by kernel_rfl) rfl rfl) ?_
   refine s_off rfl (g_off 10 (by kernel_rfl) rfl rfl) ?_
   refine s_off rfl (g_off 10 (by kernel_rfl) rfl rfl) ?_
   refine s_off rfl (g_off 10 (by kernel_rfl) rfl rfl) ?_
   refine s_off rfl (g_off 10 (by kernel_rfl) rfl rfl) ?_
   refine s_off rfl (g_off 10 (by kernel_rfl) rfl rfl) ?_
   refine s_run rfl rfl (r_pkT (v := .bool _) rfl rfl) ?_
   refine k_nc ?_
   refine k_t rfl ?_
   refine k_sg ?_
   refine s_run rfl rfl (r_bd (bd105 ) rfl) ?_
   refine s_sw H 0 rfl rfl rfl rfl rfl rfl rfl sz105 ?_
   clear H; intro _ H; simp only [jA, jB, jC, jD, jE, jF, jG, jH, jI, jJ, jK, Nat.reduceAdd] at H
   refine s_run rfl rfl (rab rfl) ?_
   refine k_nc ?_
   refine k_ret ?_
   refine c_ret ?_
   refine fx2r rfl (rv_a H 0 rfl rfl rfl ag105 sz105) (rv_t (v := .bool _) rfl) ?_
   exact ⟨rfl, H.only⟩
  ·refine k_in (N := 43) Try.func64 rfl rfl rfl ?_
   refine k_sg ?_
   refine s_box H rfl rfl ?_
   intro p2 _ H'; clear H; have H := H'; clear H'
   refine s_al H rfl inf105 ?_
   intro p4 _ H'; clear H; have H := H'; clear H'
   refine s_run rfl rfl (rab rfl) ?_
   refine k_nc ?_
   refine k_seq ?_
   refine k_sg ?_
   refine s_run rfl rfl (rmi rfl) ?_
   refine s_run rfl rfl (r_lssF rfl rfl (by omega)) ?_
   refine s_run rfl rfl (rmb rfl) ?_
   refine s_run rfl (g_on 10 (by kernel_rfl) rfl) (rmi rfl) ?_
   refine s_run rfl (g_on 10 (by kernel_rfl) rfl) (r_fa0 rfl fo64_0) ?_
   refine s_run rfl (g_on 10 (by kernel_rfl) rfl) (r_lo H 1 rfl rfl rfl ag61) ?_
   refine s_run rfl (g_on 10 (by kernel_rfl) rfl) (r_len rfl Try.underlying61) ?_
   refine s_run rfl (g_on 10 (by kernel_rfl) rfl) (r_mul rfl rfl (wI (by omega))) ?_
   refine s_run rfl (g_on 10 (by kernel_rfl) rfl) (r_geqT rfl rfl (by omega)) ?_
   refine s_run rfl rfl (r_pkF (v := .bool _) rfl rfl) ?_
   refine k_nc ?_
   refine k_t rfl ?_
   refine k_sg ?_
   refine s_run rfl rfl (r_bd (bd105 ) rfl) ?_
   refine s_sw H 0 rfl rfl rfl rfl rfl rfl rfl sz105 ?_
   clear H; intro _ H; simp only [jA, jB, jC, jD, jE, jF, jG, jH, jI, jJ, jK, Nat.reduceAdd] at H
   refine s_run rfl rfl (rab rfl) ?_
   refine k_nc ?_
   refine k_ret ?_
   refine c_ret ?_
   refine fx2r rfl (rv_a H 0 rfl rfl rfl ag105 sz105) (rv_t (v := .bool _) rfl) ?_
   exact ⟨rfl, H.only⟩
theorem d15Ptrs (hR : RefOk w [] s d m) (hm : m ≤ 100000) (hw : Ob.W64 d.cache) (a : Int) (hh : Ob.hd d.cache a = true) :
  Calls Try.prog 31 [.agg (refCells s d m).toArray, .int .i64 a].toArray w fun e w' => ∃ A c, e = .returned (.slice A (Ob.ptrs d.cache a).length c) ∧ Heap w [] [ownN 1 (.slice A (Ob.ptrs d.cache a).length c) (Ob.ptrs d.cache a).length ((Ob.ptrs d.cache a).map (Value.int .i64)) 3] w' := by
 have H := Heap.nil w
 have hlc := hR.ok.hc
 have hy := Ob.hd_yes hh
 have hb := Ob.hp_bd hw a
 have hH := fun {W : World} (h : Only [] w W) => d15Head (hR.later h (by simp)) hm hw a (by omega)
 rw [hh] at hH
 obtain ⟨n, hn⟩ : ∃ n : Nat, Ob.hp d.cache a = n := ⟨(Ob.hp d.cache a).toNat, by omega⟩
 have hpt : Ob.ptrs d.cache a = Ob.ptrsTo d.cache a n := by unfold Ob.ptrs; rw [hn, Int.toNat_natCast]
 rw [hpt, Ob.ptrsTo_len]
 rw [hn] at hH
 unfold refCells at *
 refine k_in (N := 36) Try.func31 rfl rfl rfl ?_
 refine k_sg ?_
 refine s_box H rfl rfl ?_
 intro p2 _ H'; clear H; have H := H'; clear H'
 refine s_run rfl rfl (ras rfl) ?_
 refine k_nc ?_
 refine k_sg ?_
 refine s_run rfl rfl (r_la H 0 rfl rfl rfl ag64 sz64) ?_
 refine s_run rfl rfl (rmi rfl) ?_
 refine s_call rfl (hH H.only) (ca64 rfl) ?_
 rintro e W1 ⟨rfl, H'⟩
 refine ⟨_, rfl, ?_⟩
 have H := H.same H'; clear H'
 refine s_run rfl rfl (rmt rfl) ?_
 refine s_run rfl rfl (r_ext (v := .agg _) rfl rfl) ?_
 refine s_run rfl rfl (r_ext (v := .bool _) rfl rfl) ?_
 refine s_al H rfl inf105 ?_
 intro p5 _ H'; clear H; have H := H'; clear H'
 refine s_sw H 0 rfl rfl rfl rfl rfl rfl rfl sz105 ?_
 clear H; intro _ H; simp only [jA, jB, jC, jD, jE, jF, jG, jH, jI, jJ, jK, Nat.reduceAdd] at H
 refine s_run rfl rfl (rab rfl) ?_
 refine k_nc ?_
 refine k_sg ?_
 refine s_run rfl rfl (ras rfl) ?_
 refine k_nc ?_
 refine k_seq ?_
 refine k_sg ?_
 refine s_run rfl rfl (rai rfl) ?_
 refine k_nc ?_
 refine k_b ?_
 refine k_loop (fun z f W => ∃ (i : Nat) (OA : Option Addr) (oc : Nat), i ≤ n ∧ z = n - i ∧ f 1 = .int .i64 a ∧ f 2 = ptr p2 ∧ f 5 = ptr p5 ∧ f 6 = .bool true ∧ f 7 = .slice OA i oc ∧ f 8 = .int .i64 i ∧ Heap w [] [ownN 1 (.slice OA i oc) i ((Ob.ptrsTo d.cache a i).map (Value.int .i64)) 3, blk p5 [.int .i64 n, .int .i64 (Ob.hq d.cache a)] 105, blk p2 [.slice s.A0 m s.c0, .slice s.A1 m s.c1, .slice s.A2 m s.c2, .slice s.A3 m s.c3, .slice s.A4 m s.c4, .int .i64 d.steps, .int .i64 s.rf, .bool d.dead] 64] W) n ⟨0, none, 0, by omega, rfl, rfl, rfl, rfl, rfl, rfl, rfl, H.own_nil 1 3⟩ ?_
 clear H
 rintro z f W ⟨i, OA, oc, hi, rfl, f1, f2, f5, f6, f7, f8, H⟩
 obtain ⟨f, rfl⟩ := live6 f1 f2 f5 f6 f7 f8
 clear f1 f2 f5 f6 f7 f8
 by_cases hlt : i < n
 ·have hG := fun {W : World} (h : Only [] w W) => rGet s.A0 m s.c0 (a + 1 + i) d.cache W (hR.now.later h (by simp)) hlc hm
  have hx := Ob.get_bd hw (a + 1 + i)
  have hP := fun (W : World) => d15Ptr (Nv.get d.cache (a + 1 + i)) W hx
  have hpe : min (Nv.get d.cache (a + 1 + i)) 1099511627776 = Ob.pAt d.cache (a + (1 + i)) := by unfold Ob.pAt; rw [Int.add_assoc]
  rw [hpe] at hP
  refine k_seq ?_
  refine k_sg ?_
  refine s_run rfl rfl (rmb rfl) ?_
  refine s_run rfl rfl (rmb rfl) ?_
  refine s_run rfl (g_on 16 (by kernel_rfl) rfl) (rmi rfl) ?_
  refine s_run rfl (g_on 16 (by kernel_rfl) rfl) (r_fa0 rfl fo105_0) ?_
  refine s_run rfl (g_on 16 (by kernel_rfl) rfl) (r_lo H 1 rfl rfl rfl ag3) ?_
  refine s_run rfl (g_on 16 (by kernel_rfl) rfl) (r_lssT rfl rfl (by omega)) ?_
  refine s_run rfl rfl (r_pkT (v := .bool _) rfl rfl) ?_
  refine k_nc ?_
  refine k_t rfl ?_
  refine k_skip ?_
  refine c_norm ?_
  refine k_seq ?_
  refine k_b ?_
  refine k_rg ?_
  refine s_run rfl rfl (rms rfl) ?_
  refine s_run rfl rfl (r_fa0 rfl fo64_0) ?_
  refine s_run rfl rfl (r_lo H 2 rfl rfl rfl ag61) ?_
  refine s_run rfl rfl (rmi rfl) ?_
  refine s_run rfl rfl (r_add rfl rfl (wI (by omega))) ?_
  refine s_run rfl rfl (rmi rfl) ?_
  refine s_run rfl rfl (r_add rfl rfl (wI (by omega))) ?_
  refine s_call rfl (hG H.only) (ca66 rfl) ?_
  rintro e W1 ⟨rfl, H'⟩
  refine ⟨_, rfl, ?_⟩
  have H := H.same H'; clear H'
  refine s_call rfl (hP _) (ca65 rfl) ?_
  rintro e W1 ⟨rfl, H'⟩
  refine ⟨_, rfl, ?_⟩
  have H := H.same H'; clear H'
  refine s_app1 (enc := (Value.int .i64)) H 0 rfl rfl rfl rfl rfl rfl rfl (by omega) Try.underlying25 inf3 rfl ?_
  intro _ An cn _ H'; simp only [List.set_cons_zero, List.set_cons_succ, List.take_succ_cons, List.take_zero, List.drop_succ_cons, List.drop_zero, List.cons_append, List.nil_append, List.append_nil, List.length_cons, List.length_nil, Nat.reduceAdd] at H'; clear H; have H := H'; clear H'
  refine s_run rfl rfl (ras rfl) ?_
  refine k_nil ?_
  refine b_norm ?_
  refine c_norm ?_
  refine k_rg ?_
  refine s_run rfl rfl (rmi rfl) ?_
  refine s_run rfl rfl (r_add rfl rfl (wI (by omega))) ?_
  refine s_run rfl rfl (rai rfl) ?_
  refine k_nil ?_
  refine c_round ?_
  rw [← Ob.ptrsTo_succ] at H
  exact ⟨_, _, by omega, rfl, i + 1, _, _, by omega, rfl, rfl, rfl, rfl, rfl, rfl, rfl, H⟩
 ·obtain rfl : i = n := by omega
  refine k_seq ?_
  refine k_sg ?_
  refine s_run rfl rfl (rmb rfl) ?_
  refine s_run rfl rfl (rmb rfl) ?_
  refine s_run rfl (g_on 16 (by kernel_rfl) rfl) (rmi rfl) ?_
  refine s_run rfl (g_on 16 (by kernel_rfl) rfl) (r_fa0 rfl fo105_0) ?_
  refine s_run rfl (g_on 16 (by kernel_rfl) rfl) (r_lo H 1 rfl rfl rfl ag3) ?_
  refine s_run rfl (g_on 16 (by kernel_rfl) rfl) (r_lssF rfl rfl (by omega)) ?_
  refine s_run rfl rfl (r_pkT (v := .bool _) rfl rfl) ?_
  refine k_nc ?_
  refine k_f rfl ?_
  refine k_exit ?_
  refine c_exit ?_
  refine c_exit ?_
  refine b_hit ?_
  refine c_norm ?_
  refine k_sg ?_
  refine s_run rfl rfl (rms rfl) ?_
  refine s_run rfl rfl (ras rfl) ?_
  refine k_nc ?_
  refine k_ret ?_
  refine fin1r (v := .slice _ _ _) rfl rfl ?_
  exact ⟨_, _, rfl, (H : Heap w [] ([_] ++ [_, _]) _).drops⟩
end
end Go.Proofs.Ytlakbclnilakbaa
end

section
namespace Go.Proofs.Ytlakbclnilakbaa
open Go.RowKit
set_option maxRecDepth 100000
set_option maxHeartbeats 4000000
theorem fold_sIns_lenT (l s : List Int) : (l.foldl sIns s).length = s.length + l.length := by
 induction l generalizing s with
 | nil => rfl
 | cons x l ih => rw [List.foldl_cons, ih, sIns_len, List.length_cons]; omega
theorem d19Sorted (A : Option Addr) (n c : Nat) (l : List Int) (w : World) (hS : Sees (Value.int .i64) w [] A l) (hl : l.length = n) (hn : n ≤ 10000000) :
  Calls Try.prog 32 [.slice A n c].toArray w fun e w' => ∃ A' c', e = .returned (.slice A' (srt l).length c') ∧ Sees (Value.int .i64) w' [] A' (srt l) ∧ Only [] w w' := by
 have H := Heap.nil w
 refine k_in (N := 48) Try.func32 rfl rfl rfl ?_
 refine k_sg ?_
 refine s_run rfl rfl (ras rfl) ?_
 refine k_nc ?_
 refine k_sg ?_
 refine s_run rfl rfl (ras rfl) ?_
 refine k_nc ?_
 refine k_seq ?_
 refine k_sg ?_
 refine s_run rfl rfl (rai rfl) ?_
 refine k_nc ?_
 refine k_b ?_
 refine k_loop (fun z f W => ∃ (i : Nat) (OA : Option Addr) (oc : Nat) (out : List Int), i ≤ n ∧ z = n - i ∧ out = (l.take i).foldl sIns [] ∧ Sees (Value.int .i64) W [] OA out ∧ out.length ≤ oc ∧ f 0 = .slice A n c ∧ f 3 = .slice OA out.length oc ∧ f 4 = .int .i64 i ∧ Heap w [] [] W) n ⟨0, none, 0, [], by omega, rfl, by simp, Sees.nil, by simp, rfl, rfl, rfl, H⟩ ?_
 clear H
 rintro z f W ⟨i, OA, oc, out, hi, rfl, hout, hSo, hoc, f0, f3, f4, HB⟩
 have hol : out.length = i := by rw [hout, fold_sIns_lenT, List.length_take, List.length_nil]; omega
 have H := Heap.nil W
 by_cases hil : i < n
 ·obtain ⟨x, hx⟩ : ∃ x, l[i]? = some x := ⟨_, List.getElem?_eq_getElem (by omega)⟩
  obtain ⟨b, o, rfl, _, hrd0⟩ := hS (by omega)
  have hrd := hrd0.later HB.only (by simp)
  have cx := hrd _ _ hx
  have hst2 : (l.take (i + 1)).foldl sIns [] = sIns out x := by rw [← tk_snoc hx, List.foldl_append, ← hout]; rfl
  obtain ⟨f, rfl⟩ := live3 f0 f3 f4
  clear f0 f3 f4
  refine k_seq ?_
  refine k_sg ?_
  refine s_run rfl rfl (rmi rfl) ?_
  refine s_run rfl rfl (rms rfl) ?_
  refine s_run rfl rfl (r_len rfl Try.underlying25) ?_
  refine s_run rfl rfl (r_lssT rfl rfl (by omega)) ?_
  refine k_nc ?_
  refine k_t rfl ?_
  refine k_skip ?_
  refine c_norm ?_
  refine k_seq ?_
  refine k_b ?_
  refine k_sg ?_
  refine s_run rfl rfl (rai rfl) ?_
  refine k_nc ?_
  refine k_seq ?_
  refine k_b ?_
  refine k_loop (fun z f W2 => ∃ (j : Nat), j ≤ out.length ∧ z = out.length - j ∧ (∀ k y, k < j → out[k]? = some y → y < x) ∧ f 0 = .slice (some ⟨b, o, none⟩) n c ∧ f 3 = .slice OA out.length oc ∧ f 4 = .int .i64 i ∧ f 5 = .int .i64 j ∧ Heap W [] [] W2) out.length ⟨0, by omega, rfl, by omega, rfl, rfl, rfl, rfl, H⟩ ?_
  clear H
  rintro z f W2 ⟨j, hj, rfl, hlo, f0, f3, f4, f5, H⟩
  have hp := sIns_at out x j hj hlo
  have hS2 := hSo.slo j hoc
  obtain ⟨f, rfl⟩ := live4 f0 f3 f4 f5
  clear f0 f3 f4 f5
  by_cases hjl : j < out.length
  ·obtain ⟨y, hy⟩ : ∃ y, out[j]? = some y := ⟨_, List.getElem?_eq_getElem hjl⟩
   obtain ⟨b2, o2, rfl, hb2, hrd2⟩ := hSo (by omega)
   have cy := hrd2 _ _ hy
   by_cases hyx : y < x
   ·refine k_seq ?_
    refine k_seq ?_
    refine k_q mixed (by kernel_rfl) H ?_
    refine q_run rfl rfl (fun _ H => r_mv (v := .int _ _) rfl) ?_
    refine q_run rfl rfl (fun _ H => r_mv (v := .slice _ _ _) rfl) ?_
    refine q_run rfl rfl (fun _ H => r_len rfl Try.underlying25) ?_
    refine q_run rfl rfl (fun _ H => r_lssT rfl rfl (by omega)) ?_
    refine q_run rfl rfl (fun _ H => r_mv (v := .bool _) rfl) ?_
    refine q_run rfl (g_on 17 (by kernel_rfl) rfl) (fun _ H => r_mv (v := .slice _ _ _) rfl) ?_
    refine q_run rfl (g_on 17 (by kernel_rfl) rfl) (fun _ H => r_mv (v := .int _ _) rfl) ?_
    refine q_run rfl (g_on 17 (by kernel_rfl) rfl) (fun _ H => r_ix1o (i := j) rfl rfl (by omega) (by omega) Try.underlying25 sz3) ?_
    refine q_run rfl (g_on 17 (by kernel_rfl) rfl) (fun _ H => r_lr H rfl cy (by simp) ag3) ?_
    refine q_run rfl (g_on 17 (by kernel_rfl) rfl) (fun _ H => r_mv (v := .slice _ _ _) rfl) ?_
    refine q_run rfl (g_on 17 (by kernel_rfl) rfl) (fun _ H => r_mv (v := .int _ _) rfl) ?_
    refine q_run rfl (g_on 17 (by kernel_rfl) rfl) (fun _ H => r_ix1o (i := i) rfl rfl (by omega) (by omega) Try.underlying25 sz3) ?_
    refine q_run rfl (g_on 17 (by kernel_rfl) rfl) (fun _ H => r_lr H rfl cx (by simp) ag3) ?_
    refine q_run rfl (g_on 17 (by kernel_rfl) rfl) (fun _ H => r_lssT rfl rfl (by omega)) ?_
    refine q_run rfl rfl (fun _ H => r_pkT (v := .bool _) rfl rfl) ?_
    refine q_nil ?_
    intro _ H'; clear H; have H := H'; clear H'
    refine c_norm ?_
    refine k_t rfl ?_
    refine k_skip ?_
    refine c_norm ?_
    refine k_b ?_
    refine k_rg ?_
    refine s_run rfl rfl (rmi rfl) ?_
    refine s_run rfl rfl (r_add rfl rfl (wI (by omega))) ?_
    refine s_run rfl rfl (rai rfl) ?_
    refine k_nil ?_
    refine b_norm ?_
    refine c_round ?_
    refine ⟨_, _, ?_, rfl, j + 1, by omega, rfl, fun k u hk hu => ?_, rfl, rfl, rfl, rfl, H⟩
    ·omega
    ·by_cases e : k = j
     ·subst e; rw [hy] at hu; injection hu with hu; subst hu; exact hyx
     ·exact hlo k u (by omega) hu
   ·replace hp := hp (fun u hu => by rw [hy] at hu; injection hu with hu; subst hu; exact hyx)
    have e3 : out.take j ++ [x] ++ out.drop j = sIns out x := by rw [hp]; simp
    have hln : j + 1 + (0 + (out.length - j)) = (sIns out x).length := by rw [sIns_len]; omega
    refine k_seq ?_
    refine k_seq ?_
    refine k_q mixed (by kernel_rfl) H ?_
    refine q_run rfl rfl (fun _ H => r_mv (v := .int _ _) rfl) ?_
    refine q_run rfl rfl (fun _ H => r_mv (v := .slice _ _ _) rfl) ?_
    refine q_run rfl rfl (fun _ H => r_len rfl Try.underlying25) ?_
    refine q_run rfl rfl (fun _ H => r_lssT rfl rfl (by omega)) ?_
    refine q_run rfl rfl (fun _ H => r_mv (v := .bool _) rfl) ?_
    refine q_run rfl (g_on 17 (by kernel_rfl) rfl) (fun _ H => r_mv (v := .slice _ _ _) rfl) ?_
    refine q_run rfl (g_on 17 (by kernel_rfl) rfl) (fun _ H => r_mv (v := .int _ _) rfl) ?_
    refine q_run rfl (g_on 17 (by kernel_rfl) rfl) (fun _ H => r_ix1o (i := j) rfl rfl (by omega) (by omega) Try.underlying25 sz3) ?_
    refine q_run rfl (g_on 17 (by kernel_rfl) rfl) (fun _ H => r_lr H rfl cy (by simp) ag3) ?_
    refine q_run rfl (g_on 17 (by kernel_rfl) rfl) (fun _ H => r_mv (v := .slice _ _ _) rfl) ?_
    refine q_run rfl (g_on 17 (by kernel_rfl) rfl) (fun _ H => r_mv (v := .int _ _) rfl) ?_
    refine q_run rfl (g_on 17 (by kernel_rfl) rfl) (fun _ H => r_ix1o (i := i) rfl rfl (by omega) (by omega) Try.underlying25 sz3) ?_
    refine q_run rfl (g_on 17 (by kernel_rfl) rfl) (fun _ H => r_lr H rfl cx (by simp) ag3) ?_
    refine q_run rfl (g_on 17 (by kernel_rfl) rfl) (fun _ H => r_lssF rfl rfl (by omega)) ?_
    refine q_run rfl rfl (fun _ H => r_pkT (v := .bool _) rfl rfl) ?_
    refine q_nil ?_
    intro _ H'; clear H; have H := H'; clear H'
    refine c_norm ?_
    refine k_f rfl ?_
    refine k_exit ?_
    refine c_exit ?_
    refine c_exit ?_
    refine b_hit ?_
    refine c_norm ?_
    refine k_sg ?_
    refine s_bs0 1 (by omega) H rfl Try.underlying25 inf3 ?_
    intro _ _ H'; clear H; have H := H'; clear H'
    refine s_run rfl rfl (rms rfl) ?_
    refine s_run rfl rfl (rmi rfl) ?_
    refine s_run rfl rfl (r_sloA (i := j) rfl rfl rfl (by omega) Try.underlying25 sz3) ?_
    refine s_apps (enc := (Value.int .i64)) (xs := []) H 0 rfl rfl rfl rfl (hS2) ((by rw [List.length_drop])) (fun _ => rfl) (by omega) Try.underlying25 inf3 rfl ?_
    intro _ _ _ hA H'; simp only [List.set_cons_zero, List.set_cons_succ, List.take_succ_cons, List.take_zero, List.drop_succ_cons, List.drop_zero, List.cons_append, List.nil_append, List.append_nil, List.length_cons, List.length_nil, Nat.reduceAdd] at H'; clear H; have H := H'; clear H'
    refine s_run rfl rfl (ras rfl) ?_
    refine k_nc ?_
    refine k_trF mixed ?_; have H' := H.drew; clear H; have H := H'; clear H'
    refine tqh 0 rfl rfl rfl (fun _ hS => r_mv (v := .slice _ _ _) rfl) trivial ?_
    refine tqh 1 rfl rfl rfl (fun _ hS => r_mv (v := .int _ _) rfl) trivial ?_
    refine tqh 2 rfl rfl rfl (fun _ hS => r_mv (v := .int _ _) rfl) trivial ?_
    refine tqh 3 rfl rfl rfl (fun _ hS => r_shm (j := j) (j2 := j) rfl rfl rfl rfl rfl (by omega) (by omega) Try.underlying25 sz3) trivial ?_
    refine tqh 4 rfl rfl rfl (fun _ hS => r_mv (v := .slice _ _ _) rfl) trivial ?_
    refine tqh 5 rfl rfl rfl (fun _ hS => r_mv (v := .int _ _) rfl) trivial ?_
    refine tqh 6 rfl rfl rfl (fun _ hS => r_ix1o (i := i) rfl rfl (by omega) (by omega) Try.underlying25 sz3) trivial ?_
    refine tqh 10 rfl rfl rfl (fun _ hS => r_mv (v := .slice _ _ _) rfl) trivial ?_
    refine t_up1 7 (by kernel_rfl) ?_
    refine up_mk rfl ?_
    refine s_run rfl rfl (r_lr H rfl cx (by simp) ag3) ?_
    refine k_nil ?_
    refine t_on trivial ?_
    refine t_up1 8 (by kernel_rfl) ?_
    refine up_mk rfl ?_
    refine s_bsO (enc := (Value.int .i64)) (zs := [x]) H rfl rfl rfl (by omega) (by kernel_rfl) Try.underlying25 inf3 ?_
    intro q5 _ H'; clear H; have H := H'; clear H'
    refine k_nil ?_
    refine t_on trivial ?_
    refine t_up1 9 (by kernel_rfl) ?_
    refine up_mk rfl ?_
    refine s_apG (enc := (Value.int .i64)) H ((hSo.later H.only (by simp)).head j) ((by rw [List.length_take]; omega)) ((H.own_sees 0 rfl)) ((show ([x] : List Int).length = 1 from rfl)) (by omega) rfl rfl rfl (fun _ => rfl) (by omega) Try.underlying25 inf3 rfl ?_
    intro _ _ _ H'; clear H; have H := H'; clear H'
    refine k_nil ?_
    refine t_on trivial ?_
    refine t_up1 11 (by kernel_rfl) ?_
    refine up_mk rfl ?_
    refine s_apW (enc := (Value.int .i64)) H 0 rfl rfl rfl rfl ((H.own_sees 2 rfl)) ((by simp)) (fun _ => rfl) (by omega) Try.underlying25 inf3 rfl ?_
    intro A2 c9 _ H'; simp only [List.set_cons_zero, List.set_cons_succ, List.take_succ_cons, List.take_zero, List.drop_succ_cons, List.drop_zero, List.cons_append, List.nil_append, List.append_nil, List.length_cons, List.length_nil, Nat.reduceAdd] at H'; clear H; have H := H'; clear H'
    refine k_nil ?_
    refine t_on trivial ?_
    refine tqh 12 rfl rfl rfl (fun _ hS => r_as (v := .slice _ _ _) rfl) trivial ?_
    refine t_done (by kernel_rfl) ?_
    refine b_norm ?_
    refine c_norm ?_
    refine k_rg ?_
    refine s_run rfl rfl (rmi rfl) ?_
    refine s_run rfl rfl (r_add rfl rfl (wI (by omega))) ?_
    refine s_run rfl rfl (rai rfl) ?_
    refine k_nil ?_
    refine c_round ?_
    rw [e3, hln] at H; exact ⟨_, _, by omega, rfl, i + 1, A2, c9, _, by omega, rfl, hst2.symm, own_seesC H 0 rfl, own_cap H 0 rfl, rfl, by rw [← hln]; rfl, rfl, HB.same H.only⟩
  ·obtain rfl : j = out.length := by omega
   replace hp := hp (fun u hu => by rw [List.getElem?_eq_none (Nat.le_refl _)] at hu; cases hu)
   have e3 : out.take out.length ++ [x] ++ out.drop out.length = sIns out x := by rw [hp]; simp
   have hln : out.length + 1 + (0 + (out.length - out.length)) = (sIns out x).length := by rw [sIns_len]; omega
   refine k_seq ?_
   refine k_seq ?_
   refine k_q mixed (by kernel_rfl) H ?_
   refine q_run rfl rfl (fun _ H => r_mv (v := .int _ _) rfl) ?_
   refine q_run rfl rfl (fun _ H => r_mv (v := .slice _ _ _) rfl) ?_
   refine q_run rfl rfl (fun _ H => r_len rfl Try.underlying25) ?_
   refine q_run rfl rfl (fun _ H => r_lssF rfl rfl (by omega)) ?_
   refine q_run rfl rfl (fun _ H => r_mv (v := .bool _) rfl) ?_
   refine q_off rfl (g_off 17 (by kernel_rfl) rfl rfl) ?_
   refine q_off rfl (g_off 17 (by kernel_rfl) rfl rfl) ?_
   refine q_off rfl (g_off 17 (by kernel_rfl) rfl rfl) ?_
   refine q_off rfl (g_off 17 (by kernel_rfl) rfl rfl) ?_
   refine q_off rfl (g_off 17 (by kernel_rfl) rfl rfl) ?_
   refine q_off rfl (g_off 17 (by kernel_rfl) rfl rfl) ?_
   refine q_off rfl (g_off 17 (by kernel_rfl) rfl rfl) ?_
   refine q_off rfl (g_off 17 (by kernel_rfl) rfl rfl) ?_
   refine q_off rfl (g_off 17 (by kernel_rfl) rfl rfl) ?_
   refine q_run rfl rfl (fun _ H => r_pkF (v := .bool _) rfl rfl) ?_
   refine q_nil ?_
   intro _ H'; clear H; have H := H'; clear H'
   refine c_norm ?_
   refine k_f rfl ?_
   refine k_exit ?_
   refine c_exit ?_
   refine c_exit ?_
   refine b_hit ?_
   refine c_norm ?_
   refine k_sg ?_
   refine s_bs0 1 (by omega) H rfl Try.underlying25 inf3 ?_
   intro _ _ H'; clear H; have H := H'; clear H'
   refine s_run rfl rfl (rms rfl) ?_
   refine s_run rfl rfl (rmi rfl) ?_
   refine s_run rfl rfl (r_sloA (i := out.length) rfl rfl rfl (by omega) Try.underlying25 sz3) ?_
   refine s_apps (enc := (Value.int .i64)) (xs := []) H 0 rfl rfl rfl rfl (hS2) ((by rw [List.length_drop])) (fun _ => rfl) (by omega) Try.underlying25 inf3 rfl ?_
   intro _ _ _ hA H'; simp only [List.set_cons_zero, List.set_cons_succ, List.take_succ_cons, List.take_zero, List.drop_succ_cons, List.drop_zero, List.cons_append, List.nil_append, List.append_nil, List.length_cons, List.length_nil, Nat.reduceAdd] at H'; clear H; have H := H'; clear H'
   refine s_run rfl rfl (ras rfl) ?_
   refine k_nc ?_
   refine k_trF mixed ?_; have H' := H.drew; clear H; have H := H'; clear H'
   refine tqh 0 rfl rfl rfl (fun _ hS => r_mv (v := .slice _ _ _) rfl) trivial ?_
   refine tqh 1 rfl rfl rfl (fun _ hS => r_mv (v := .int _ _) rfl) trivial ?_
   refine tqh 2 rfl rfl rfl (fun _ hS => r_mv (v := .int _ _) rfl) trivial ?_
   refine tqh 3 rfl rfl rfl (fun _ hS => r_shm (j := out.length) (j2 := out.length) rfl rfl rfl rfl rfl (by omega) (by omega) Try.underlying25 sz3) trivial ?_
   refine tqh 4 rfl rfl rfl (fun _ hS => r_mv (v := .slice _ _ _) rfl) trivial ?_
   refine tqh 5 rfl rfl rfl (fun _ hS => r_mv (v := .int _ _) rfl) trivial ?_
   refine tqh 6 rfl rfl rfl (fun _ hS => r_ix1o (i := i) rfl rfl (by omega) (by omega) Try.underlying25 sz3) trivial ?_
   refine tqh 10 rfl rfl rfl (fun _ hS => r_mv (v := .slice _ _ _) rfl) trivial ?_
   refine t_up1 7 (by kernel_rfl) ?_
   refine up_mk rfl ?_
   refine s_run rfl rfl (r_lr H rfl cx (by simp) ag3) ?_
   refine k_nil ?_
   refine t_on trivial ?_
   refine t_up1 8 (by kernel_rfl) ?_
   refine up_mk rfl ?_
   refine s_bsO (enc := (Value.int .i64)) (zs := [x]) H rfl rfl rfl (by omega) (by kernel_rfl) Try.underlying25 inf3 ?_
   intro q5 _ H'; clear H; have H := H'; clear H'
   refine k_nil ?_
   refine t_on trivial ?_
   refine t_up1 9 (by kernel_rfl) ?_
   refine up_mk rfl ?_
   refine s_apG (enc := (Value.int .i64)) H ((hSo.later H.only (by simp)).head out.length) ((by rw [List.length_take]; omega)) ((H.own_sees 0 rfl)) ((show ([x] : List Int).length = 1 from rfl)) (by omega) rfl rfl rfl (fun _ => rfl) (by omega) Try.underlying25 inf3 rfl ?_
   intro _ _ _ H'; clear H; have H := H'; clear H'
   refine k_nil ?_
   refine t_on trivial ?_
   refine t_up1 11 (by kernel_rfl) ?_
   refine up_mk rfl ?_
   refine s_apW (enc := (Value.int .i64)) H 0 rfl rfl rfl rfl ((H.own_sees 2 rfl)) ((by simp)) (fun _ => rfl) (by omega) Try.underlying25 inf3 rfl ?_
   intro A2 c9 _ H'; simp only [List.set_cons_zero, List.set_cons_succ, List.take_succ_cons, List.take_zero, List.drop_succ_cons, List.drop_zero, List.cons_append, List.nil_append, List.append_nil, List.length_cons, List.length_nil, Nat.reduceAdd] at H'; clear H; have H := H'; clear H'
   refine k_nil ?_
   refine t_on trivial ?_
   refine tqh 12 rfl rfl rfl (fun _ hS => r_as (v := .slice _ _ _) rfl) trivial ?_
   refine t_done (by kernel_rfl) ?_
   refine b_norm ?_
   refine c_norm ?_
   refine k_rg ?_
   refine s_run rfl rfl (rmi rfl) ?_
   refine s_run rfl rfl (r_add rfl rfl (wI (by omega))) ?_
   refine s_run rfl rfl (rai rfl) ?_
   refine k_nil ?_
   refine c_round ?_
   rw [e3, hln] at H; exact ⟨_, _, by omega, rfl, i + 1, A2, c9, _, by omega, rfl, hst2.symm, own_seesC H 0 rfl, own_cap H 0 rfl, rfl, by rw [← hln]; rfl, rfl, HB.same H.only⟩
 ·obtain rfl : i = n := by omega
  obtain ⟨f, rfl⟩ := live3 f0 f3 f4
  clear f0 f3 f4
  have he : out = srt l := by
   rw [hout, show l.take i = l by rw [← hl]; exact List.take_length]
   exact sIns_fold l
  refine k_seq ?_
  refine k_sg ?_
  refine s_run rfl rfl (rmi rfl) ?_
  refine s_run rfl rfl (rms rfl) ?_
  refine s_run rfl rfl (r_len rfl Try.underlying25) ?_
  refine s_run rfl rfl (r_lssF rfl rfl (by omega)) ?_
  refine k_nc ?_
  refine k_f rfl ?_
  refine k_exit ?_
  refine c_exit ?_
  refine c_exit ?_
  refine b_hit ?_
  refine c_norm ?_
  refine k_sg ?_
  refine s_run rfl rfl (rms rfl) ?_
  refine s_run rfl rfl (ras rfl) ?_
  refine k_nc ?_
  refine k_ret ?_
  refine fin1r (v := .slice _ _ _) rfl rfl ?_
  rw [← he]
  exact ⟨OA, oc, rfl, hSo, HB.only⟩
end Go.Proofs.Ytlakbclnilakbaa
end

section
namespace Go.Proofs.Ytlakbclnilakbaa
section
open Go.ChangeShapes Go.WideShapes Go.Deep
variable {H : Type} {enc : TypeId × Value → H} {w : World} {base : Nat} {spare : Nat → Bool} {held : Bool}
theorem o_add {b o i : Nat} : (⟨b, o, none⟩ : Addr).add i = ⟨b, o + i, none⟩ := by
 unfold Addr.add; split
 ·subst_vars; rfl
 ·rfl
theorem o_sees {k : IntKind} {t e : TypeId} {fuel : Nat} {v : Value} {y : DataW H × List MemPlace} (ht : Try.prog.underlying t = some (.slice e)) (he : Try.prog.underlying e = some (.int k)) (hc : Try.prog.cellsOf e = 1)
  (h : DataW.trod enc Try.prog w base spare held fuel t [v] = some y) :
  ∃ A n c xs, v = .slice A n c ∧ Sees (Value.int k) w [] A xs ∧ xs.length = n ∧ n ≤ c ∧ c ≤ maxLen ∧ ∀ z ∈ xs, (Lit.int k z).wf = true := by
 rcases open_ints ht he hc h with ⟨hcs, _⟩ | ⟨x, l, c, zs, hcs, _, hl, hm, hz, _, hcell, hwf⟩
 ·injection hcs with hv _
  exact ⟨none, 0, 0, [], hv, Sees.nil, rfl, by omega, by decide, by simp⟩
 ·injection hcs with hv _
  have hzl : l ≤ zs.length := by rw [hz]; split <;> omega
  refine ⟨some x, l, c, zs.take l, hv, fun h0 => ?_, by simp; omega, hl, hm, fun z hz => hwf z (List.mem_of_mem_take hz)⟩
  obtain ⟨b, off, spot⟩ := x
  have h0' : 0 < l := by simp at h0; omega
  have hc0 := hcell 0 (by omega)
  have hspot : spot = none := by simpa [Addr.add] using World.cell?_spot hc0
  subst hspot
  refine ⟨b, off, rfl, by simp, fun j z hj => ?_⟩
  have hjl : j < l := by have := (List.getElem?_eq_some_iff.1 hj).1; simp at this; omega
  rw [List.getElem?_take_of_lt hjl] at hj
  have hc2 := hcell j (by omega)
  rw [o_add] at hc2
  rw [hc2]
  simp [List.getD, hj]
theorem o_list {α : Type} {Q : Nat → α → Prop} : ∀ n : Nat, (∀ i, i < n → ∃ x, Q i x) → ∃ l : List α, l.length = n ∧ ∀ i x, l[i]? = some x → Q i x
 | 0, _ => ⟨[], rfl, by simp⟩
 | n + 1, h => by
  obtain ⟨l, hl, hq⟩ := o_list n (fun i hi => h i (by omega))
  obtain ⟨x, hx⟩ := h n (by omega)
  refine ⟨l ++ [x], by simp [hl], fun i y hy => ?_⟩
  by_cases hi : i < l.length
  ·rw [List.getElem?_append_left hi] at hy; exact hq i y hy
  ·have hi2 : i < n + 1 := by have := (List.getElem?_eq_some_iff.1 hy).1; simp at this; omega
   obtain rfl : i = n := by omega
   rw [List.getElem?_append_right (by omega)] at hy
   simp [hl] at hy
   subst hy; exact hx
set_option maxRecDepth 100000 in
theorem o_one {t : TypeId} {fs : Array Field} (h : Try.prog.underlying t = some (.struct fs)) (h2 : (match Try.prog.underlying t with | some (.struct fs) => oneCellFields Try.prog fs | _ => false) = true) : oneCellFields Try.prog fs = true := by
 rw [h] at h2; exact h2
end
end Go.Proofs.Ytlakbclnilakbaa
end

section
namespace Go.Proofs.Ytlakbclnilakbaa
open Go.RowKit
structure TNode where
 f0 : Int
 A1 : Option Addr
 n1 : Nat
 c1 : Nat
 xs1 : List Int
def TNode.cells (u : TNode) : List Value := [.int .i64 u.f0, .slice u.A1 u.n1 u.c1]
structure TNodeOk (w : World) (u : TNode) : Prop where
 w0 : (Lit.int .i64 u.f0).wf = true
 s1 : Sees (Value.int .i64) w [] u.A1 u.xs1
 l1 : u.xs1.length = u.n1
 m1 : u.n1 ≤ u.c1 ∧ u.c1 ≤ maxLen
 b1 : ∀ z ∈ u.xs1, (Lit.int .i64 z).wf = true
def ScriptTNode (w : World) (A : Option Addr) (ops : List TNode) : Prop := (ops.length ≠ 0 → ∃ b o, A = some ⟨b, o, none⟩ ∧ ∀ i op, ops[i]? = some op → Reads (fun v : Value => v) w b (o + i * 2) op.cells) ∧ ∀ op ∈ ops, TNodeOk w op
theorem TNodeOk.later {w W : World} {u : TNode} (h : TNodeOk w u) (hO : Only [] w W) : TNodeOk W u := ⟨h.w0, h.s1.later hO (by simp), h.l1, h.m1, h.b1⟩
theorem ScriptTNode.later {w W : World} {A : Option Addr} {ops : List TNode} (h : ScriptTNode w A ops) (hO : Only [] w W) : ScriptTNode W A ops :=
 ⟨fun h0 => by
  obtain ⟨b, o, e, hr⟩ := h.1 h0
  exact ⟨b, o, e, fun i op hi => (hr i op hi).later hO (by simp)⟩, fun op hop => (h.2 op hop).later hO⟩
section
open Go.ChangeShapes Go.WideShapes Go.Deep
variable {H : Type} {enc : TypeId × Value → H} {w : World} {base : Nat} {spare : Nat → Bool} {held : Bool}
set_option maxRecDepth 100000 in
theorem open_TNode {fuel : Nat} {cs : List Value} {y : DataW H × List MemPlace} (h : DataW.trod enc Try.prog w base spare held fuel 100 cs = some y) : ∃ op : TNode, cs = op.cells ∧ TNodeOk w op := by
 obtain ⟨xs, n, _, _, hl, hlen, hg⟩ := DataW.trod_struct Try.underlying100 h
 have hone := o_one Try.underlying100 (by kernel_rfl)
 have hcl : cs.length = 2 := hl.trans (by kernel_rfl)
 replace hlen : xs.length = 2 := hlen
 match cs, hcl, xs, hlen with
 | [c0, c1], _, [y0, y1], _ =>
  obtain ⟨o0, k0⟩ := hone_of hone 0 _ rfl
  obtain ⟨o1, k1⟩ := hone_of hone 1 _ rfl
  have g0 := hg 0 _ rfl
  have g1 := hg 1 _ rfl
  rw [o0, k0] at g0
  rw [o1, k1] at g1
  replace g0 := g0.trans (show _ = some y0 from rfl)
  replace g1 := g1.trans (show _ = some y1 from rfl)
  obtain ⟨z0, e0, _, w0⟩ := DataW.trod_int Try.underlying3 g0
  obtain ⟨A1, m1, q1, bs1, e1, hs1, hb1, hmc1, hcm1, hw1⟩ := o_sees Try.underlying25 Try.underlying3 (by kernel_rfl) (show DataW.trod enc Try.prog w base spare held n 25 [c1] = some y1 from g1)
  obtain rfl : c0 = .int .i64 z0 := by simpa using e0
  subst e1
  exact ⟨⟨z0, A1, m1, q1, bs1⟩, rfl, w0, hs1, hb1, ⟨hmc1, hcm1⟩, hw1⟩
set_option maxRecDepth 100000 in
theorem opens_TNode (W : World) {r : Reach} (b0 : Nat) (v : Value) (d : DataW H) (p : List MemPlace)
  (hv : Value.okWide Try.prog W r b0 44 v) (h : DataW.Trod enc Try.prog W base spare held 44 v d p) :
  ∃ x : Option Addr × Nat × Nat × List TNode, v = .slice x.1 x.2.1 x.2.2.1 ∧ (ScriptTNode W x.1 x.2.2.2 ∧ x.2.2.2.length = x.2.1 ∧ x.2.1 ≤ 9223372036854775807 ∧ x.2.1 ≤ x.2.2.1) := by
 obtain ⟨a, len, cap, rfl⟩ := okWide_slice Try.underlying44 hv
 obtain ⟨fuel, hf⟩ := h
 have c5 : Try.prog.cellsOf 100 = 2 := by kernel_rfl
 rcases open_slice Try.underlying44 hf with ⟨hcs, _⟩ | ⟨x, l, c, m, n, D, Pl, hcs, _, hl, hm, hmm, _, hx⟩
 ·simp [Value.cells] at hcs
  obtain ⟨rfl, rfl, rfl⟩ := hcs
  exact ⟨(none, 0, 0, []), rfl, ⟨fun h => absurd rfl h, by simp⟩, rfl, by show (0 : Nat) ≤ _; omega, by show (0 : Nat) ≤ _; omega⟩
 ·simp [Value.cells] at hcs
  obtain ⟨rfl, rfl, rfl⟩ := hcs
  rw [c5] at hx
  have hlm : len ≤ m := by rw [hmm]; split <;> omega
  obtain ⟨ops, hol, hq⟩ := o_list (Q := fun i (op : TNode) => TNodeOk W op ∧ ∀ j u, op.cells[j]? = some u → W.cell? (x.add (i * 2 + j)) = some u) len (fun i hi => by
   obtain ⟨cs', hc, ht⟩ := hx i (by omega)
   obtain ⟨op, rfl, hok⟩ := open_TNode ht
   obtain ⟨_, hcl, hat⟩ := World.cells?_some hc
   refine ⟨op, hok, fun j u hj => ?_⟩
   have hj5 : j < 2 := by have := (List.getElem?_eq_some_iff.1 hj).1; rw [hcl] at this; exact this
   rw [← Go.Deep.add_add, hat j hj5, hj])
  refine ⟨(some x, len, cap, ops), rfl, ⟨fun h0 => ?_, fun op hop => ?_⟩, hol, by simp only [maxLen] at hm; show len ≤ _; omega, by show len ≤ cap; omega⟩
  ·have h00 : ops.length ≠ 0 := h0
   obtain ⟨op0, hop0⟩ : ∃ op, ops[0]? = some op := ⟨_, List.getElem?_eq_getElem (by omega)⟩
   obtain ⟨b, off, spot⟩ := x
   have hc0 := (hq 0 op0 hop0).2 0 _ rfl
   have hspot : spot = none := by simpa [Addr.add] using World.cell?_spot hc0
   subst hspot
   refine ⟨b, off, rfl, fun i op hi j u hu => ?_⟩
   have := (hq i op hi).2 j u hu
   rw [o_add] at this
   rw [Nat.add_assoc]; exact this
  ·obtain ⟨i, hi, rfl⟩ := List.mem_iff_getElem.1 hop
   exact (hq i _ (List.getElem?_eq_getElem hi)).1
end
end Go.Proofs.Ytlakbclnilakbaa
end

section
namespace Go.Proofs.Ytlakbclnilakbaa.Md
def adr (n : Int) : Int := if n < 0 then -(n + 1) else 512 + 512 * (n / 64) + 8 * (n % 64)
theorem adr_bd {n : Int} (h : -5000 ≤ n ∧ n ≤ 5000) : 0 ≤ adr n ∧ adr n ≤ 60000 := by unfold adr; split <;> omega
theorem adr_cell {n : Int} {B : Nat} (h : 0 ≤ n ∧ n < 64 * ((B : Int) - 1)) : 512 ≤ adr n ∧ adr n + 8 ≤ 512 * (B : Int) ∧ adr n % 8 = 0 := by unfold adr; rw [if_neg (by omega)]; omega
def setPs (ws : List Int) (at_ : Nat) (ps : List Int) : Nat → List Int
 | 0 => ws
 | k + 1 => (setPs ws at_ ps k).set (at_ + 1 + k) (adr (ps.getD k 0))
def putNode (B : Nat) (ws : List Int) (c : Int) (ps : List Int) : List Int :=
 if c < 0 ∨ 64 * ((B : Int) - 1) ≤ c ∨ 6 < ps.length then ws else setPs (ws.set (adr c).toNat (Oh.enc (ps.length : Int) (7 - (ps.length : Int)) (adr c))) (adr c).toNat ps ps.length
def mkW (B : Nat) (us : List (Int × List Int)) : Nat → List Int
 | 0 => List.replicate (512 * B) 0
 | k + 1 => putNode B (mkW B us k) (us.getD k (-1, [])).1 (us.getD k (-1, [])).2
theorem setPs_len (ws : List Int) (a : Nat) (ps : List Int) : ∀ k, (setPs ws a ps k).length = ws.length
 | 0 => rfl
 | k + 1 => by rw [setPs, List.length_set]; exact setPs_len ws a ps k
theorem putNode_len (B : Nat) (ws : List Int) (c : Int) (ps : List Int) : (putNode B ws c ps).length = ws.length := by
 unfold putNode; split
 ·rfl
 ·rw [setPs_len, List.length_set]
theorem mkW_len (B : Nat) (us : List (Int × List Int)) : ∀ k, (mkW B us k).length = 512 * B
 | 0 => by simp [mkW]
 | k + 1 => by rw [mkW, putNode_len]; exact mkW_len B us k
theorem W64.set {ws : List Int} (h : Ob.W64 ws) (i : Nat) {v : Int} (hv : 0 ≤ v ∧ v ≤ 18446744073709551615) : Ob.W64 (ws.set i v) := fun x hx => by
 rcases List.mem_or_eq_of_mem_set hx with h1 | h1
 ·exact h x h1
 ·subst h1; exact hv
theorem setPs_w64 {ws : List Int} (h : Ob.W64 ws) (a : Nat) (ps : List Int) (hp : ∀ x ∈ ps, -5000 ≤ x ∧ x ≤ 5000) : ∀ k, k ≤ ps.length → Ob.W64 (setPs ws a ps k)
 | 0, _ => h
 | k + 1, hk => by
  rw [setPs]
  refine W64.set (setPs_w64 h a ps hp k (by omega)) _ ?_
  have hm : ps.getD k 0 ∈ ps := by
   rw [List.getD_eq_getElem?_getD, List.getElem?_eq_getElem (by omega)]; exact List.getElem_mem _
  have := adr_bd (hp _ hm)
  omega
theorem mkW_w64 (B : Nat) (us : List (Int × List Int)) (h : ∀ u ∈ us, ∀ x ∈ u.2, -5000 ≤ x ∧ x ≤ 5000) : ∀ k, k ≤ us.length → Ob.W64 (mkW B us k)
 | 0, _ => fun x hx => by rw [List.eq_of_mem_replicate hx]; omega
 | k + 1, hk => by
  rw [mkW]
  unfold putNode
  have ih := mkW_w64 B us h k (by omega)
  split
  ·exact ih
  ·have hm : us.getD k (-1, []) ∈ us := by
    rw [List.getD_eq_getElem?_getD, List.getElem?_eq_getElem (by omega)]; exact List.getElem_mem _
   exact setPs_w64 (W64.set ih _ (Oh.enc_bd _ _ _)) _ _ (h _ hm) _ (Nat.le_refl _)
/-- the headers: none, then small ones -/
def mkH (B : Nat) : List Ob.H3 := (List.range B).map fun i => if i = 0 then (0, 0, 0) else (1, 6, 0)
theorem mkH_len (B : Nat) : (mkH B).length = B := by simp [mkH]
def hfl : Nat → List C1
 | 0 => []
 | i + 1 => hfl i ++ if i = 0 then [C1.i .i64 0, C1.i .i64 0, C1.i .i64 0] else [C1.i .i64 1, C1.i .i64 6, C1.i .i64 0]
theorem hfl_len : ∀ i, (hfl i).length = i * 3
 | 0 => rfl
 | i + 1 => by rw [hfl, List.length_append, hfl_len i]; split <;> simp <;> omega
theorem hfl_get : ∀ (B i : Nat), i < B → ∃ a b c, (mkH B)[i]? = some (a, b, c) ∧ (hfl B)[i * 3]? = some (C1.i .i64 a) ∧ (hfl B)[i * 3 + 1]? = some (C1.i .i64 b) ∧ (hfl B)[i * 3 + 2]? = some (C1.i .i64 c)
 | 0, i, h => by omega
 | B + 1, i, h => by
  have hl := hfl_len B
  by_cases e : i = B
  ·subst e
   rw [hfl]
   unfold mkH
   rw [List.getElem?_map, List.getElem?_range (by omega), List.getElem?_append_right (by omega), List.getElem?_append_right (by omega), List.getElem?_append_right (by omega), hl]
   rw [show i * 3 - i * 3 = 0 by omega, show i * 3 + 1 - i * 3 = 1 by omega, show i * 3 + 2 - i * 3 = 2 by omega]
   by_cases h0 : i = 0
   ·exact ⟨0, 0, 0, by simp [h0], by simp [h0], by simp [h0], by simp [h0]⟩
   ·exact ⟨1, 6, 0, by simp [h0], by simp [h0], by simp [h0], by simp [h0]⟩
  ·obtain ⟨a, b, c, h1, h2, h3, h4⟩ := hfl_get B i (by omega)
   refine ⟨a, b, c, ?_, ?_, ?_, ?_⟩
   ·unfold mkH at h1 ⊢
    rw [List.getElem?_map, List.getElem?_range (by omega)] at h1 ⊢
    exact h1
   ·rw [hfl, List.getElem?_append_left (by omega)]; exact h2
   ·rw [hfl, List.getElem?_append_left (by omega)]; exact h3
   ·rw [hfl, List.getElem?_append_left (by omega)]; exact h4
end Go.Proofs.Ytlakbclnilakbaa.Md
end

section
namespace Go.Proofs.Ytlakbclnilakbaa
open Go.RowKit
set_option maxRecDepth 100000
set_option maxHeartbeats 4000000
theorem lAddr (n : Int) (w : World) (hn : -1000000000 ≤ n ∧ n ≤ 1000000000) :
  Calls Try.prog 23 [.int .i64 n].toArray w fun e w' => e = .returned (.int .i64 (Md.adr n)) ∧ Only [] w w' := by
 have H := Heap.nil w
 unfold Md.adr
 by_cases h : n < 0
 ·rw [if_pos h, show -(n + 1) = 0 - (n + 1) by omega]
  refine k_in (N := 16) Try.func23 rfl rfl rfl ?_
  refine k_sg ?_
  refine s_run rfl rfl (rai rfl) ?_
  refine k_nc ?_
  refine k_seq ?_
  refine k_sg ?_
  refine s_run rfl rfl (rmi rfl) ?_
  refine s_run rfl rfl (r_lssT rfl rfl (by omega)) ?_
  refine k_nc ?_
  refine k_t rfl ?_
  refine k_sg ?_
  refine s_run rfl rfl (rmi rfl) ?_
  refine s_run rfl rfl (r_add rfl rfl (wI (by omega))) ?_
  refine s_run rfl rfl (r_neg rfl (wI (by omega))) ?_
  refine s_run rfl rfl (rai rfl) ?_
  refine k_nc ?_
  refine k_ret ?_
  refine c_ret ?_
  refine fin1r (v := .int _ _) rfl rfl ?_
  exact ⟨rfl, H.only⟩
 ·rw [if_neg h]
  refine k_in (N := 16) Try.func23 rfl rfl rfl ?_
  refine k_sg ?_
  refine s_run rfl rfl (rai rfl) ?_
  refine k_nc ?_
  refine k_seq ?_
  refine k_sg ?_
  refine s_run rfl rfl (rmi rfl) ?_
  refine s_run rfl rfl (r_lssF rfl rfl (by omega)) ?_
  refine k_nc ?_
  refine k_f rfl ?_
  refine k_skip ?_
  refine c_norm ?_
  refine k_sg ?_
  refine s_run rfl rfl (rmi rfl) ?_
  refine s_run rfl rfl (r_quo rfl rfl (by omega) (wI (by omega))) ?_
  refine s_run rfl rfl (r_mul rfl rfl (wI (by omega))) ?_
  refine s_run rfl rfl (r_add rfl rfl (wI (by omega))) ?_
  refine s_run rfl rfl (rmi rfl) ?_
  refine s_run rfl rfl (r_rem rfl rfl (by omega)) ?_
  refine s_run rfl rfl (r_mul rfl rfl (wI (by omega))) ?_
  refine s_run rfl rfl (r_add rfl rfl (wI (by omega))) ?_
  refine s_run rfl rfl (rai rfl) ?_
  refine k_nc ?_
  refine k_ret ?_
  refine fin1r (v := .int _ _) rfl rfl ?_
  exact ⟨rfl, H.only⟩
theorem lRoots (A : Option Addr) (n c : Nat) (l : List Int) (w : World) (hS : Sees (Value.int .i64) w [] A l) (hl : l.length = n) (hn : n ≤ 1000000) (hb : ∀ x ∈ l, -5000 ≤ x ∧ x ≤ 5000) :
  Calls Try.prog 28 [.slice A n c].toArray w fun e w' => ∃ A' c', e = .returned (.slice A' n c') ∧ Heap w [] [ownN 1 (.slice A' n c') n ((l.map Md.adr).map (Value.int .i64)) 3] w' := by
 have H := Heap.nil w
 refine k_in (N := 20) Try.func28 rfl rfl rfl ?_
 refine k_sg ?_
 refine s_run rfl rfl (ras rfl) ?_
 refine k_nc ?_
 refine k_sg ?_
 refine s_run rfl rfl (ras rfl) ?_
 refine k_nc ?_
 refine k_seq ?_
 refine k_sg ?_
 refine s_run rfl rfl (rai rfl) ?_
 refine k_nc ?_
 refine k_b ?_
 refine k_loop (fun z f W => ∃ (i : Nat) (OA : Option Addr) (oc : Nat), i ≤ n ∧ z = n - i ∧ f 0 = .slice A n c ∧ f 3 = .slice OA i oc ∧ f 4 = .int .i64 i ∧ Heap w [] [ownN 1 (.slice OA i oc) i (((l.take i).map Md.adr).map (Value.int .i64)) 3] W) n ⟨0, none, 0, by omega, rfl, rfl, rfl, rfl, H.own_nil 1 3⟩ ?_
 clear H
 rintro z f W ⟨i, OA, oc, hi, rfl, f0, f3, f4, H⟩
 obtain ⟨f, rfl⟩ := live3 f0 f3 f4
 clear f0 f3 f4
 by_cases hlt : i < n
 ·obtain ⟨x, hx⟩ : ∃ x, l[i]? = some x := ⟨_, List.getElem?_eq_getElem (by omega)⟩
  have hxb := hb x (List.mem_of_getElem? hx)
  obtain ⟨b, o, rfl, _, hrd⟩ := hS (by omega)
  have cx := hrd i x hx
  have hA := fun (W : World) => lAddr x W (by omega)
  refine k_seq ?_
  refine k_sg ?_
  refine s_run rfl rfl (rmi rfl) ?_
  refine s_run rfl rfl (rms rfl) ?_
  refine s_run rfl rfl (r_len rfl Try.underlying25) ?_
  refine s_run rfl rfl (r_lssT rfl rfl (by omega)) ?_
  refine k_nc ?_
  refine k_t rfl ?_
  refine k_skip ?_
  refine c_norm ?_
  refine k_seq ?_
  refine k_b ?_
  refine k_rg ?_
  refine s_run rfl rfl (rms rfl) ?_
  refine s_run rfl rfl (rms rfl) ?_
  refine s_run rfl rfl (rmi rfl) ?_
  refine s_run rfl rfl (r_ix1o rfl rfl rfl (by omega) Try.underlying25 sz3) ?_
  refine s_run rfl rfl (r_lr H rfl cx (by simp) ag3) ?_
  refine s_call rfl (hA _) (ca23 rfl) ?_
  rintro e W1 ⟨rfl, H'⟩
  refine ⟨_, rfl, ?_⟩
  have H := H.same H'; clear H'
  refine s_app1 (enc := (Value.int .i64)) H 0 rfl rfl rfl rfl rfl rfl rfl (by omega) Try.underlying25 inf3 rfl ?_
  intro _ An cn _ H'; simp only [List.set_cons_zero, List.set_cons_succ, List.take_succ_cons, List.take_zero, List.drop_succ_cons, List.drop_zero, List.cons_append, List.nil_append, List.append_nil, List.length_cons, List.length_nil, Nat.reduceAdd] at H'; clear H; have H := H'; clear H'
  refine s_run rfl rfl (ras rfl) ?_
  refine k_nil ?_
  refine b_norm ?_
  refine c_norm ?_
  refine k_rg ?_
  refine s_run rfl rfl (rmi rfl) ?_
  refine s_run rfl rfl (r_add rfl rfl (wI (by omega))) ?_
  refine s_run rfl rfl (rai rfl) ?_
  refine k_nil ?_
  refine c_round ?_
  have ht : (l.take i).map Md.adr ++ [Md.adr x] = (l.take (i + 1)).map Md.adr := by rw [← tk_snoc hx, List.map_append]; rfl
  rw [ht] at H
  exact ⟨_, _, by omega, rfl, i + 1, _, _, by omega, rfl, rfl, rfl, rfl, H⟩
 ·obtain rfl : i = n := by omega
  rw [show l.take i = l by rw [← hl]; exact List.take_length] at H
  refine k_seq ?_
  refine k_sg ?_
  refine s_run rfl rfl (rmi rfl) ?_
  refine s_run rfl rfl (rms rfl) ?_
  refine s_run rfl rfl (r_len rfl Try.underlying25) ?_
  refine s_run rfl rfl (r_lssF rfl rfl (by omega)) ?_
  refine k_nc ?_
  refine k_f rfl ?_
  refine k_exit ?_
  refine c_exit ?_
  refine c_exit ?_
  refine b_hit ?_
  refine c_norm ?_
  refine k_sg ?_
  refine s_run rfl rfl (rms rfl) ?_
  refine s_run rfl rfl (ras rfl) ?_
  refine k_nc ?_
  refine k_ret ?_
  refine fin1r (v := .slice _ _ _) rfl rfl ?_
  exact ⟨_, _, rfl, H⟩
def FewT (us : List TNode) (l : List Int) : Prop := us.length ≤ 60 ∧ l.length ≤ 20 ∧ (∀ u ∈ us, u.n1 ≤ 10 ∧ ∀ x ∈ u.xs1, -5000 ≤ x ∧ x ≤ 5000) ∧ ∀ x ∈ l, -5000 ≤ x ∧ x ≤ 5000
theorem lFewT (A : Option Addr) (n c : Nat) (us : List TNode) (B : Option Addr) (m d : Nat) (l : List Int) (w : World) (hU : ScriptTNode w A us) (hn : us.length = n) (hS : Sees (Value.int .i64) w [] B l) (hl : l.length = m) (hn2 : n ≤ 9223372036854775807) (hm2 : m ≤ 9223372036854775807) :
  Calls Try.prog 19 [.slice A n c, .slice B m d].toArray w fun e w' => ∃ b, e = .returned (.bool b) ∧ (b = true → FewT us l) ∧ Only [] w w' := by
 have H := Heap.nil w
 by_cases h1 : n > 60
 ·refine k_in (N := 77) Try.func19 rfl rfl rfl ?_
  refine k_sg ?_
  refine s_run rfl rfl (rab rfl) ?_
  refine k_nc ?_
  refine k_seq ?_
  refine k_sg ?_
  refine s_run rfl rfl (rms rfl) ?_
  refine s_run rfl rfl (r_len rfl Try.underlying44) ?_
  refine s_run rfl rfl (r_gtrT rfl rfl (by omega)) ?_
  refine s_run rfl rfl (rmb rfl) ?_
  refine s_off rfl (g_off 11 (by kernel_rfl) rfl rfl) ?_
  refine s_off rfl (g_off 11 (by kernel_rfl) rfl rfl) ?_
  refine s_off rfl (g_off 11 (by kernel_rfl) rfl rfl) ?_
  refine s_run rfl rfl (r_pkT (v := .bool _) rfl rfl) ?_
  refine k_nc ?_
  refine k_t rfl ?_
  refine k_sg ?_
  refine s_run rfl rfl (rab rfl) ?_
  refine k_nc ?_
  refine k_ret ?_
  refine c_ret ?_
  refine fin1r (v := .bool _) rfl rfl ?_
  exact ⟨false, rfl, (fun h => by cases h), H.only⟩
 by_cases h2 : m > 20
 ·refine k_in (N := 77) Try.func19 rfl rfl rfl ?_
  refine k_sg ?_
  refine s_run rfl rfl (rab rfl) ?_
  refine k_nc ?_
  refine k_seq ?_
  refine k_sg ?_
  refine s_run rfl rfl (rms rfl) ?_
  refine s_run rfl rfl (r_len rfl Try.underlying44) ?_
  refine s_run rfl rfl (r_gtrF rfl rfl (by omega)) ?_
  refine s_run rfl rfl (rmb rfl) ?_
  refine s_run rfl (g_on 11 (by kernel_rfl) rfl) (rms rfl) ?_
  refine s_run rfl (g_on 11 (by kernel_rfl) rfl) (r_len rfl Try.underlying25) ?_
  refine s_run rfl (g_on 11 (by kernel_rfl) rfl) (r_gtrT rfl rfl (by omega)) ?_
  refine s_run rfl rfl (r_pkF (v := .bool _) rfl rfl) ?_
  refine k_nc ?_
  refine k_t rfl ?_
  refine k_sg ?_
  refine s_run rfl rfl (rab rfl) ?_
  refine k_nc ?_
  refine k_ret ?_
  refine c_ret ?_
  refine fin1r (v := .bool _) rfl rfl ?_
  exact ⟨false, rfl, (fun h => by cases h), H.only⟩
 refine k_in (N := 77) Try.func19 rfl rfl rfl ?_
 refine k_sg ?_
 refine s_run rfl rfl (rab rfl) ?_
 refine k_nc ?_
 refine k_seq ?_
 refine k_sg ?_
 refine s_run rfl rfl (rms rfl) ?_
 refine s_run rfl rfl (r_len rfl Try.underlying44) ?_
 refine s_run rfl rfl (r_gtrF rfl rfl (by omega)) ?_
 refine s_run rfl rfl (rmb rfl) ?_
 refine s_run rfl (g_on 11 (by kernel_rfl) rfl) (rms rfl) ?_
 refine s_run rfl (g_on 11 (by kernel_rfl) rfl) (r_len rfl Try.underlying25) ?_
 refine s_run rfl (g_on 11 (by kernel_rfl) rfl) (r_gtrF rfl rfl (by omega)) ?_
 refine s_run rfl rfl (r_pkF (v := .bool _) rfl rfl) ?_
 refine k_nc ?_
 refine k_f rfl ?_
 refine k_skip ?_
 refine c_norm ?_
 refine k_seq ?_
 refine k_sg ?_
 refine s_run rfl rfl (rai rfl) ?_
 refine k_nc ?_
 refine k_b ?_
 refine k_loop (fun z f W => ∃ (i : Nat), i ≤ n ∧ z = n - i ∧ (∀ u ∈ us.take i, u.n1 ≤ 10 ∧ ∀ x ∈ u.xs1, -5000 ≤ x ∧ x ≤ 5000) ∧ f 0 = .slice A n c ∧ f 1 = .slice B m d ∧ f 5 = .int .i64 i ∧ Heap w [] [] W) n ⟨0, by omega, rfl, by simp, rfl, rfl, rfl, H⟩ ?_
 clear H
 rintro z f W ⟨i, hi, rfl, hpre, f0, f1, f5, H⟩
 obtain ⟨f, rfl⟩ := live3 f0 f1 f5
 clear f0 f1 f5
 by_cases hlt : i < n
 ·obtain ⟨u, hu⟩ : ∃ u, us[i]? = some u := ⟨_, List.getElem?_eq_getElem (by omega)⟩
  have hok := hU.2 u (List.mem_of_getElem? hu)
  obtain ⟨b, o, rfl, hrd⟩ := hU.1 (by omega)
  have hre := hrd i u hu
  have c1 : w.cell? ⟨b, o + i * 2 + 1, none⟩ = some (.slice u.A1 u.n1 u.c1) := hre 1 _ rfl
  have hn1 : u.n1 ≤ 9223372036854775807 := by have := hok.m1; unfold maxLen at this; omega
  by_cases h10 : u.n1 > 10
  ·refine k_seq ?_
   refine k_sg ?_
   refine s_run rfl rfl (rmi rfl) ?_
   refine s_run rfl rfl (rms rfl) ?_
   refine s_run rfl rfl (r_len rfl Try.underlying44) ?_
   refine s_run rfl rfl (r_lssT rfl rfl (by omega)) ?_
   refine k_nc ?_
   refine k_t rfl ?_
   refine k_skip ?_
   refine c_norm ?_
   refine k_seq ?_
   refine k_b ?_
   refine k_seq ?_
   refine k_sg ?_
   refine s_run rfl rfl (rms rfl) ?_
   refine s_run rfl rfl (rmi rfl) ?_
   refine s_run rfl rfl (r_ix (i := i) rfl rfl (by omega) (by omega) Try.underlying44 sz100) ?_
   refine s_run rfl rfl (r_fa rfl fo100_1) ?_
   refine s_run rfl rfl (r_lr H rfl c1 (by simp) ag25) ?_
   refine s_run rfl rfl (r_len rfl Try.underlying25) ?_
   refine s_run rfl rfl (r_gtrT rfl rfl (by omega)) ?_
   refine k_nc ?_
   refine k_t rfl ?_
   refine k_sg ?_
   refine s_run rfl rfl (rab rfl) ?_
   refine k_nc ?_
   refine k_ret ?_
   refine c_ret ?_
   refine b_ret ?_
   refine c_ret ?_
   refine c_ret ?_
   refine b_ret ?_
   refine c_ret ?_
   refine fin1r (v := .bool _) rfl rfl ?_
   exact ⟨false, rfl, (fun h => by cases h), H.only⟩
  ·refine k_seq ?_
   refine k_sg ?_
   refine s_run rfl rfl (rmi rfl) ?_
   refine s_run rfl rfl (rms rfl) ?_
   refine s_run rfl rfl (r_len rfl Try.underlying44) ?_
   refine s_run rfl rfl (r_lssT rfl rfl (by omega)) ?_
   refine k_nc ?_
   refine k_t rfl ?_
   refine k_skip ?_
   refine c_norm ?_
   refine k_seq ?_
   refine k_b ?_
   refine k_seq ?_
   refine k_sg ?_
   refine s_run rfl rfl (rms rfl) ?_
   refine s_run rfl rfl (rmi rfl) ?_
   refine s_run rfl rfl (r_ix (i := i) rfl rfl (by omega) (by omega) Try.underlying44 sz100) ?_
   refine s_run rfl rfl (r_fa rfl fo100_1) ?_
   refine s_run rfl rfl (r_lr H rfl c1 (by simp) ag25) ?_
   refine s_run rfl rfl (r_len rfl Try.underlying25) ?_
   refine s_run rfl rfl (r_gtrF rfl rfl (by omega)) ?_
   refine k_nc ?_
   refine k_f rfl ?_
   refine k_skip ?_
   refine c_norm ?_
   refine k_sg ?_
   refine s_run rfl rfl (rai rfl) ?_
   refine k_nc ?_
   refine k_b ?_
   refine k_loop (fun z f W => ∃ (k : Nat), k ≤ u.n1 ∧ z = u.n1 - k ∧ (∀ x ∈ u.xs1.take k, -5000 ≤ x ∧ x ≤ 5000) ∧ f 0 = .slice (some ⟨b, o, none⟩) n c ∧ f 1 = .slice B m d ∧ f 5 = .int .i64 i ∧ f 6 = .int .i64 k ∧ Heap w [] [] W) u.n1 ⟨0, by omega, rfl, by simp, rfl, rfl, rfl, rfl, H⟩ ?_
   clear H
   rintro z f W ⟨k, hk, rfl, hpk, f0, f1, f5, f6, H⟩
   obtain ⟨f, rfl⟩ := live4 f0 f1 f5 f6
   clear f0 f1 f5 f6
   by_cases hkl : k < u.n1
   ·obtain ⟨x, hx⟩ : ∃ x, u.xs1[k]? = some x := ⟨_, List.getElem?_eq_getElem (by have := hok.l1; omega)⟩
    obtain ⟨b2, o2, hA1, _, hr2⟩ := hok.s1 (by have := hok.l1; omega)
    have cx := hr2 k x hx
    rw [hA1] at c1
    by_cases hx1 : x < -5000
    ·refine k_seq ?_
     refine k_sg ?_
     refine s_run rfl rfl (rmi rfl) ?_
     refine s_run rfl rfl (rms rfl) ?_
     refine s_run rfl rfl (rmi rfl) ?_
     refine s_run rfl rfl (r_ix (i := i) rfl rfl (by omega) (by omega) Try.underlying44 sz100) ?_
     refine s_run rfl rfl (r_fa rfl fo100_1) ?_
     refine s_run rfl rfl (r_lr H rfl c1 (by simp) ag25) ?_
     refine s_run rfl rfl (r_len rfl Try.underlying25) ?_
     refine s_run rfl rfl (r_lssT rfl rfl (by omega)) ?_
     refine k_nc ?_
     refine k_t rfl ?_
     refine k_skip ?_
     refine c_norm ?_
     refine k_seq ?_
     refine k_b ?_
     refine k_sg ?_
     refine s_run rfl rfl (rms rfl) ?_
     refine s_run rfl rfl (rmi rfl) ?_
     refine s_run rfl rfl (r_ix (i := i) rfl rfl (by omega) (by omega) Try.underlying44 sz100) ?_
     refine s_run rfl rfl (r_fa rfl fo100_1) ?_
     refine s_run rfl rfl (r_lr H rfl c1 (by simp) ag25) ?_
     refine s_run rfl rfl (rmi rfl) ?_
     refine s_run rfl rfl (r_ix1o (i := k) rfl rfl (by omega) (by omega) Try.underlying25 sz3) ?_
     refine s_run rfl rfl (r_lr H rfl cx (by simp) ag3) ?_
     refine s_run rfl rfl (r_lssT rfl rfl (by omega)) ?_
     refine s_run rfl rfl (rmb rfl) ?_
     refine s_off rfl (g_off 48 (by kernel_rfl) rfl rfl) ?_
     refine s_off rfl (g_off 48 (by kernel_rfl) rfl rfl) ?_
     refine s_off rfl (g_off 48 (by kernel_rfl) rfl rfl) ?_
     refine s_off rfl (g_off 48 (by kernel_rfl) rfl rfl) ?_
     refine s_off rfl (g_off 48 (by kernel_rfl) rfl rfl) ?_
     refine s_off rfl (g_off 48 (by kernel_rfl) rfl rfl) ?_
     refine s_off rfl (g_off 48 (by kernel_rfl) rfl rfl) ?_
     refine s_off rfl (g_off 48 (by kernel_rfl) rfl rfl) ?_
     refine s_off rfl (g_off 48 (by kernel_rfl) rfl rfl) ?_
     refine s_run rfl rfl (r_pkT (v := .bool _) rfl rfl) ?_
     refine k_nc ?_
     refine k_t rfl ?_
     refine k_sg ?_
     refine s_run rfl rfl (rab rfl) ?_
     refine k_nc ?_
     refine k_ret ?_
     refine b_ret ?_
     refine c_ret ?_
     refine c_ret ?_
     refine b_ret ?_
     refine b_ret ?_
     refine c_ret ?_
     refine c_ret ?_
     refine b_ret ?_
     refine c_ret ?_
     refine fin1r (v := .bool _) rfl rfl ?_
     exact ⟨false, rfl, (fun h => by cases h), H.only⟩
    ·by_cases hx2 : x > 5000
     ·refine k_seq ?_
      refine k_sg ?_
      refine s_run rfl rfl (rmi rfl) ?_
      refine s_run rfl rfl (rms rfl) ?_
      refine s_run rfl rfl (rmi rfl) ?_
      refine s_run rfl rfl (r_ix (i := i) rfl rfl (by omega) (by omega) Try.underlying44 sz100) ?_
      refine s_run rfl rfl (r_fa rfl fo100_1) ?_
      refine s_run rfl rfl (r_lr H rfl c1 (by simp) ag25) ?_
      refine s_run rfl rfl (r_len rfl Try.underlying25) ?_
      refine s_run rfl rfl (r_lssT rfl rfl (by omega)) ?_
      refine k_nc ?_
      refine k_t rfl ?_
      refine k_skip ?_
      refine c_norm ?_
      refine k_seq ?_
      refine k_b ?_
      refine k_sg ?_
      refine s_run rfl rfl (rms rfl) ?_
      refine s_run rfl rfl (rmi rfl) ?_
      refine s_run rfl rfl (r_ix (i := i) rfl rfl (by omega) (by omega) Try.underlying44 sz100) ?_
      refine s_run rfl rfl (r_fa rfl fo100_1) ?_
      refine s_run rfl rfl (r_lr H rfl c1 (by simp) ag25) ?_
      refine s_run rfl rfl (rmi rfl) ?_
      refine s_run rfl rfl (r_ix1o (i := k) rfl rfl (by omega) (by omega) Try.underlying25 sz3) ?_
      refine s_run rfl rfl (r_lr H rfl cx (by simp) ag3) ?_
      refine s_run rfl rfl (r_lssF rfl rfl (by omega)) ?_
      refine s_run rfl rfl (rmb rfl) ?_
      refine s_run rfl (g_on 48 (by kernel_rfl) rfl) (rms rfl) ?_
      refine s_run rfl (g_on 48 (by kernel_rfl) rfl) (rmi rfl) ?_
      refine s_run rfl (g_on 48 (by kernel_rfl) rfl) (r_ix (i := i) rfl rfl (by omega) (by omega) Try.underlying44 sz100) ?_
      refine s_run rfl (g_on 48 (by kernel_rfl) rfl) (r_fa rfl fo100_1) ?_
      refine s_run rfl (g_on 48 (by kernel_rfl) rfl) (r_lr H rfl c1 (by simp) ag25) ?_
      refine s_run rfl (g_on 48 (by kernel_rfl) rfl) (rmi rfl) ?_
      refine s_run rfl (g_on 48 (by kernel_rfl) rfl) (r_ix1o (i := k) rfl rfl (by omega) (by omega) Try.underlying25 sz3) ?_
      refine s_run rfl (g_on 48 (by kernel_rfl) rfl) (r_lr H rfl cx (by simp) ag3) ?_
      refine s_run rfl (g_on 48 (by kernel_rfl) rfl) (r_gtrT rfl rfl (by omega)) ?_
      refine s_run rfl rfl (r_pkF (v := .bool _) rfl rfl) ?_
      refine k_nc ?_
      refine k_t rfl ?_
      refine k_sg ?_
      refine s_run rfl rfl (rab rfl) ?_
      refine k_nc ?_
      refine k_ret ?_
      refine b_ret ?_
      refine c_ret ?_
      refine c_ret ?_
      refine b_ret ?_
      refine b_ret ?_
      refine c_ret ?_
      refine c_ret ?_
      refine b_ret ?_
      refine c_ret ?_
      refine fin1r (v := .bool _) rfl rfl ?_
      exact ⟨false, rfl, (fun h => by cases h), H.only⟩
     ·refine k_seq ?_
      refine k_sg ?_
      refine s_run rfl rfl (rmi rfl) ?_
      refine s_run rfl rfl (rms rfl) ?_
      refine s_run rfl rfl (rmi rfl) ?_
      refine s_run rfl rfl (r_ix (i := i) rfl rfl (by omega) (by omega) Try.underlying44 sz100) ?_
      refine s_run rfl rfl (r_fa rfl fo100_1) ?_
      refine s_run rfl rfl (r_lr H rfl c1 (by simp) ag25) ?_
      refine s_run rfl rfl (r_len rfl Try.underlying25) ?_
      refine s_run rfl rfl (r_lssT rfl rfl (by omega)) ?_
      refine k_nc ?_
      refine k_t rfl ?_
      refine k_skip ?_
      refine c_norm ?_
      refine k_seq ?_
      refine k_b ?_
      refine k_sg ?_
      refine s_run rfl rfl (rms rfl) ?_
      refine s_run rfl rfl (rmi rfl) ?_
      refine s_run rfl rfl (r_ix (i := i) rfl rfl (by omega) (by omega) Try.underlying44 sz100) ?_
      refine s_run rfl rfl (r_fa rfl fo100_1) ?_
      refine s_run rfl rfl (r_lr H rfl c1 (by simp) ag25) ?_
      refine s_run rfl rfl (rmi rfl) ?_
      refine s_run rfl rfl (r_ix1o (i := k) rfl rfl (by omega) (by omega) Try.underlying25 sz3) ?_
      refine s_run rfl rfl (r_lr H rfl cx (by simp) ag3) ?_
      refine s_run rfl rfl (r_lssF rfl rfl (by omega)) ?_
      refine s_run rfl rfl (rmb rfl) ?_
      refine s_run rfl (g_on 48 (by kernel_rfl) rfl) (rms rfl) ?_
      refine s_run rfl (g_on 48 (by kernel_rfl) rfl) (rmi rfl) ?_
      refine s_run rfl (g_on 48 (by kernel_rfl) rfl) (r_ix (i := i) rfl rfl (by omega) (by omega) Try.underlying44 sz100) ?_
      refine s_run rfl (g_on 48 (by kernel_rfl) rfl) (r_fa rfl fo100_1) ?_
      refine s_run rfl (g_on 48 (by kernel_rfl) rfl) (r_lr H rfl c1 (by simp) ag25) ?_
      refine s_run rfl (g_on 48 (by kernel_rfl) rfl) (rmi rfl) ?_
      refine s_run rfl (g_on 48 (by kernel_rfl) rfl) (r_ix1o (i := k) rfl rfl (by omega) (by omega) Try.underlying25 sz3) ?_
      refine s_run rfl (g_on 48 (by kernel_rfl) rfl) (r_lr H rfl cx (by simp) ag3) ?_
      refine s_run rfl (g_on 48 (by kernel_rfl) rfl) (r_gtrF rfl rfl (by omega)) ?_
      refine s_run rfl rfl (r_pkF (v := .bool _) rfl rfl) ?_
      refine k_nc ?_
      refine k_f rfl ?_
      refine k_skip ?_
      refine b_norm ?_
      refine c_norm ?_
      refine k_rg ?_
      refine s_run rfl rfl (rmi rfl) ?_
      refine s_run rfl rfl (r_add rfl rfl (wI (by omega))) ?_
      refine s_run rfl rfl (rai rfl) ?_
      refine k_nil ?_
      refine c_round ?_
      refine ⟨_, _, ?_, rfl, k + 1, by omega, rfl, fun y hy => ?_, rfl, rfl, rfl, rfl, H⟩
      ·omega
      ·rw [← tk_snoc hx] at hy
       rcases List.mem_append.1 hy with h | h
       ·exact hpk y h
       ·rw [List.mem_singleton.1 h]; omega
   ·obtain rfl : k = u.n1 := by omega
    rw [show u.xs1.take u.n1 = u.xs1 by rw [← hok.l1]; exact List.take_length] at hpk
    refine k_seq ?_
    refine k_sg ?_
    refine s_run rfl rfl (rmi rfl) ?_
    refine s_run rfl rfl (rms rfl) ?_
    refine s_run rfl rfl (rmi rfl) ?_
    refine s_run rfl rfl (r_ix (i := i) rfl rfl (by omega) (by omega) Try.underlying44 sz100) ?_
    refine s_run rfl rfl (r_fa rfl fo100_1) ?_
    refine s_run rfl rfl (r_lr H rfl c1 (by simp) ag25) ?_
    refine s_run rfl rfl (r_len rfl Try.underlying25) ?_
    refine s_run rfl rfl (r_lssF rfl rfl (by omega)) ?_
    refine k_nc ?_
    refine k_f rfl ?_
    refine k_exit ?_
    refine c_exit ?_
    refine c_exit ?_
    refine b_hit ?_
    refine b_norm ?_
    refine c_norm ?_
    refine k_rg ?_
    refine s_run rfl rfl (rmi rfl) ?_
    refine s_run rfl rfl (r_add rfl rfl (wI (by omega))) ?_
    refine s_run rfl rfl (rai rfl) ?_
    refine k_nil ?_
    refine c_round ?_
    refine ⟨_, _, ?_, rfl, i + 1, by omega, rfl, fun v hv => ?_, rfl, rfl, rfl, H⟩
    ·omega
    ·rw [← tk_snoc hu] at hv
     rcases List.mem_append.1 hv with h | h
     ·exact hpre v h
     ·rw [List.mem_singleton.1 h]; exact ⟨by omega, hpk⟩
 ·obtain rfl : i = n := by omega
  rw [show us.take i = us by rw [← hn]; exact List.take_length] at hpre
  refine k_seq ?_
  refine k_sg ?_
  refine s_run rfl rfl (rmi rfl) ?_
  refine s_run rfl rfl (rms rfl) ?_
  refine s_run rfl rfl (r_len rfl Try.underlying44) ?_
  refine s_run rfl rfl (r_lssF rfl rfl (by omega)) ?_
  refine k_nc ?_
  refine k_f rfl ?_
  refine k_exit ?_
  refine c_exit ?_
  refine c_exit ?_
  refine b_hit ?_
  refine c_norm ?_
  refine k_seq ?_
  refine k_sg ?_
  refine s_run rfl rfl (rai rfl) ?_
  refine k_nc ?_
  refine k_b ?_
  refine k_loop (fun z f W => ∃ (i : Nat), i ≤ m ∧ z = m - i ∧ (∀ x ∈ l.take i, -5000 ≤ x ∧ x ≤ 5000) ∧ f 1 = .slice B m d ∧ f 7 = .int .i64 i ∧ Heap w [] [] W) m ⟨0, by omega, rfl, by simp, rfl, rfl, H⟩ ?_
  clear H
  rintro z f W ⟨j, hj, rfl, hpj, f1, f7, H⟩
  obtain ⟨f, rfl⟩ := live2 f1 f7
  clear f1 f7
  by_cases hjl : j < m
  ·obtain ⟨x, hx⟩ : ∃ x, l[j]? = some x := ⟨_, List.getElem?_eq_getElem (by omega)⟩
   obtain ⟨b2, o2, rfl, _, hr2⟩ := hS (by omega)
   have cx := hr2 j x hx
   by_cases hx1 : x < -5000
   ·refine k_seq ?_
    refine k_sg ?_
    refine s_run rfl rfl (rmi rfl) ?_
    refine s_run rfl rfl (rms rfl) ?_
    refine s_run rfl rfl (r_len rfl Try.underlying25) ?_
    refine s_run rfl rfl (r_lssT rfl rfl (by omega)) ?_
    refine k_nc ?_
    refine k_t rfl ?_
    refine k_skip ?_
    refine c_norm ?_
    refine k_seq ?_
    refine k_b ?_
    refine k_sg ?_
    refine s_run rfl rfl (rms rfl) ?_
    refine s_run rfl rfl (rmi rfl) ?_
    refine s_run rfl rfl (r_ix1o (i := j) rfl rfl (by omega) (by omega) Try.underlying25 sz3) ?_
    refine s_run rfl rfl (r_lr H rfl cx (by simp) ag3) ?_
    refine s_run rfl rfl (r_lssT rfl rfl (by omega)) ?_
    refine s_run rfl rfl (rmb rfl) ?_
    refine s_off rfl (g_off 70 (by kernel_rfl) rfl rfl) ?_
    refine s_off rfl (g_off 70 (by kernel_rfl) rfl rfl) ?_
    refine s_off rfl (g_off 70 (by kernel_rfl) rfl rfl) ?_
    refine s_off rfl (g_off 70 (by kernel_rfl) rfl rfl) ?_
    refine s_off rfl (g_off 70 (by kernel_rfl) rfl rfl) ?_
    refine s_run rfl rfl (r_pkT (v := .bool _) rfl rfl) ?_
    refine k_nc ?_
    refine k_t rfl ?_
    refine k_sg ?_
    refine s_run rfl rfl (rab rfl) ?_
    refine k_nc ?_
    refine k_ret ?_
    refine b_ret ?_
    refine c_ret ?_
    refine c_ret ?_
    refine b_ret ?_
    refine c_ret ?_
    refine fin1r (v := .bool _) rfl rfl ?_
    exact ⟨false, rfl, (fun h => by cases h), H.only⟩
   ·by_cases hx2 : x > 5000
    ·refine k_seq ?_
     refine k_sg ?_
     refine s_run rfl rfl (rmi rfl) ?_
     refine s_run rfl rfl (rms rfl) ?_
     refine s_run rfl rfl (r_len rfl Try.underlying25) ?_
     refine s_run rfl rfl (r_lssT rfl rfl (by omega)) ?_
     refine k_nc ?_
     refine k_t rfl ?_
     refine k_skip ?_
     refine c_norm ?_
     refine k_seq ?_
     refine k_b ?_
     refine k_sg ?_
     refine s_run rfl rfl (rms rfl) ?_
     refine s_run rfl rfl (rmi rfl) ?_
     refine s_run rfl rfl (r_ix1o (i := j) rfl rfl (by omega) (by omega) Try.underlying25 sz3) ?_
     refine s_run rfl rfl (r_lr H rfl cx (by simp) ag3) ?_
     refine s_run rfl rfl (r_lssF rfl rfl (by omega)) ?_
     refine s_run rfl rfl (rmb rfl) ?_
     refine s_run rfl (g_on 70 (by kernel_rfl) rfl) (rms rfl) ?_
     refine s_run rfl (g_on 70 (by kernel_rfl) rfl) (rmi rfl) ?_
     refine s_run rfl (g_on 70 (by kernel_rfl) rfl) (r_ix1o (i := j) rfl rfl (by omega) (by omega) Try.underlying25 sz3) ?_
     refine s_run rfl (g_on 70 (by kernel_rfl) rfl) (r_lr H rfl cx (by simp) ag3) ?_
     refine s_run rfl (g_on 70 (by kernel_rfl) rfl) (r_gtrT rfl rfl (by omega)) ?_
     refine s_run rfl rfl (r_pkF (v := .bool _) rfl rfl) ?_
     refine k_nc ?_
     refine k_t rfl ?_
     refine k_sg ?_
     refine s_run rfl rfl (rab rfl) ?_
     refine k_nc ?_
     refine k_ret ?_
     refine b_ret ?_
     refine c_ret ?_
     refine c_ret ?_
     refine b_ret ?_
     refine c_ret ?_
     refine fin1r (v := .bool _) rfl rfl ?_
     exact ⟨false, rfl, (fun h => by cases h), H.only⟩
    ·refine k_seq ?_
     refine k_sg ?_
     refine s_run rfl rfl (rmi rfl) ?_
     refine s_run rfl rfl (rms rfl) ?_
     refine s_run rfl rfl (r_len rfl Try.underlying25) ?_
     refine s_run rfl rfl (r_lssT rfl rfl (by omega)) ?_
     refine k_nc ?_
     refine k_t rfl ?_
     refine k_skip ?_
     refine c_norm ?_
     refine k_seq ?_
     refine k_b ?_
     refine k_sg ?_
     refine s_run rfl rfl (rms rfl) ?_
     refine s_run rfl rfl (rmi rfl) ?_
     refine s_run rfl rfl (r_ix1o (i := j) rfl rfl (by omega) (by omega) Try.underlying25 sz3) ?_
     refine s_run rfl rfl (r_lr H rfl cx (by simp) ag3) ?_
     refine s_run rfl rfl (r_lssF rfl rfl (by omega)) ?_
     refine s_run rfl rfl (rmb rfl) ?_
     refine s_run rfl (g_on 70 (by kernel_rfl) rfl) (rms rfl) ?_
     refine s_run rfl (g_on 70 (by kernel_rfl) rfl) (rmi rfl) ?_
     refine s_run rfl (g_on 70 (by kernel_rfl) rfl) (r_ix1o (i := j) rfl rfl (by omega) (by omega) Try.underlying25 sz3) ?_
     refine s_run rfl (g_on 70 (by kernel_rfl) rfl) (r_lr H rfl cx (by simp) ag3) ?_
     refine s_run rfl (g_on 70 (by kernel_rfl) rfl) (r_gtrF rfl rfl (by omega)) ?_
     refine s_run rfl rfl (r_pkF (v := .bool _) rfl rfl) ?_
     refine k_nc ?_
     refine k_f rfl ?_
     refine k_skip ?_
     refine b_norm ?_
     refine c_norm ?_
     refine k_rg ?_
     refine s_run rfl rfl (rmi rfl) ?_
     refine s_run rfl rfl (r_add rfl rfl (wI (by omega))) ?_
     refine s_run rfl rfl (rai rfl) ?_
     refine k_nil ?_
     refine c_round ?_
     refine ⟨_, _, ?_, rfl, j + 1, by omega, rfl, fun y hy => ?_, rfl, rfl, H⟩
     ·omega
     ·rw [← tk_snoc hx] at hy
      rcases List.mem_append.1 hy with h | h
      ·exact hpj y h
      ·rw [List.mem_singleton.1 h]; omega
  ·obtain rfl : j = m := by omega
   rw [show l.take j = l by rw [← hl]; exact List.take_length] at hpj
   refine k_seq ?_
   refine k_sg ?_
   refine s_run rfl rfl (rmi rfl) ?_
   refine s_run rfl rfl (rms rfl) ?_
   refine s_run rfl rfl (r_len rfl Try.underlying25) ?_
   refine s_run rfl rfl (r_lssF rfl rfl (by omega)) ?_
   refine k_nc ?_
   refine k_f rfl ?_
   refine k_exit ?_
   refine c_exit ?_
   refine c_exit ?_
   refine b_hit ?_
   refine c_norm ?_
   refine k_sg ?_
   refine s_run rfl rfl (rab rfl) ?_
   refine k_nc ?_
   refine k_ret ?_
   refine fin1r (v := .bool _) rfl rfl ?_
   exact ⟨true, rfl, fun _ => ⟨by omega, by omega, hpre, hpj⟩, H.only⟩
end Go.Proofs.Ytlakbclnilakbaa
end
