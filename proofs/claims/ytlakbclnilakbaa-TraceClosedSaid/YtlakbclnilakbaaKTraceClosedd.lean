/- Parts of the proof, one behind the other. -/
import Derived.WideKeyEntry
import Derived.DeepKeys4
import Derived.Test.YtlakbclnilakbaaKTraceClosedc
set_option linter.unusedSimpArgs false
set_option linter.unusedVariables false
set_option linter.unusedSectionVars false
section
namespace Go.Proofs.Ytlakbclnilakbaa
open Go.RowKit
theorem map_range_set {α : Type _} (N i : Nat) (g : Nat → α) (v : α) : ((List.range N).map g).set i v = (List.range N).map (fun j => if j = i then v else g j) := by
 apply List.ext_getElem?
 intro j
 rw [List.getElem?_set]
 by_cases hj : j < N
 ·by_cases e : i = j
  ·subst e
   rw [if_pos rfl, List.getElem?_map, List.getElem?_range hj]
   simp [hj]
  ·rw [if_neg e, List.getElem?_map, List.getElem?_map, List.getElem?_range hj]
   have : ¬ j = i := fun e2 => e e2.symm
   simp [this]
 ·have h1 : ∀ (h : Nat → α), ((List.range N).map h)[j]? = none := fun h => by rw [List.getElem?_eq_none]; simp; omega
  rw [h1]
  by_cases e : i = j
  ·subst e; rw [if_pos rfl, if_neg (by simpa using hj), h1]
  ·rw [if_neg e, h1]
/-- a row of ints: where, how long, how much room, what -/
structure RowS where
 A : Option Addr
 n : Nat
 c : Nat
 xs : List Int
def RowS.v (r : RowS) : Value := .slice r.A r.n r.c
def RowS.nil : RowS := ⟨none, 0, 0, []⟩
def rowE (T : TypeId) (r : RowS) : Ent := ownN 1 (.slice r.A r.n r.c) r.n (r.xs.map (Value.int .i64)) T
def updR (F : Nat → RowS) (i : Nat) (r : RowS) : Nat → RowS := fun j => if j = i then r else F j
def famL (T : TypeId) (N : Nat) (F : Nat → RowS) : List Ent := (List.range N).map fun i => rowE T (F i)
def fam (T : TypeId) (N : Nat) (F : Nat → RowS) : Ent := grp (famL T N F)
section
variable {w0 W : World} {Fr : List Nat} {L A : List Ent}
theorem Heap.splice (H : Heap w0 Fr (grp A :: L) W) : Heap w0 Fr (A ++ L) W := by
 have e : ids (A ++ L) = ids (grp A :: L) := by rw [ids_append, ids_cons]; rfl
 refine ⟨fun E hE => ?_, by rw [e]; exact H.nd, by rw [e]; exact H.own, H.only⟩
 rcases List.mem_append.1 hE with h | h
 ·exact (H.grp_ents 0 rfl).1 E h
 ·exact H.ok E (List.mem_cons_of_mem _ h)
theorem Heap.bundle (H : Heap w0 Fr (A ++ L) W) : Heap w0 Fr (grp A :: L) W := by
 have e : ids (A ++ L) = ids (grp A :: L) := by rw [ids_append, ids_cons]; rfl
 refine ⟨fun E hE => ?_, by rw [← e]; exact H.nd, by rw [← e]; exact H.own, H.only⟩
 rcases List.mem_cons.1 hE with rfl | h
 ·exact H.part
 ·exact H.ok E (List.mem_append_right _ h)
theorem famL_set (T : TypeId) (N i : Nat) (F : Nat → RowS) (r : RowS) : (famL T N F).set i (rowE T r) = famL T N (updR F i r) := by
 unfold famL
 rw [map_range_set]
 refine List.map_congr_left fun j _ => ?_
 unfold updR
 split <;> rfl
theorem famL_get {T : TypeId} {N i : Nat} {F : Nat → RowS} (hi : i < N) : (famL T N F)[i]? = some (rowE T (F i)) := by
 unfold famL; rw [List.getElem?_map, List.getElem?_range hi]; rfl
theorem famL_len (T : TypeId) (N : Nat) (F : Nat → RowS) : (famL T N F).length = N := by unfold famL; simp
/-- .. and put back -/
theorem Heap.push1 {T : TypeId} {N : Nat} {F : Nat → RowS} {r : RowS} (H : Heap w0 Fr (rowE T r :: fam T N F :: L) W) {i : Nat} (hi : i < N) (hF : F i = RowS.nil) : Heap w0 Fr (fam T N (updR F i r) :: L) W := by
 have h0 : Heap w0 Fr (grp (famL T N F) :: (rowE T r :: L)) W := H.perm (List.Perm.swap _ _ _)
 have h1 := h0.splice
 have hl : i < (famL T N F).length := by rw [famL_len]; exact hi
 have hp := pick_perm (famL T N F) i hl
 have hg : (famL T N F)[i] = rowE T (F i) := by
  have := famL_get (T := T) (F := F) hi
  rw [List.getElem?_eq_getElem hl] at this
  injection this
 rw [hg, hF] at hp
 have h2 : Heap w0 Fr (rowE T RowS.nil :: ((famL T N F).eraseIdx i ++ (rowE T r :: L))) W := h1.perm (hp.append_right _)
 have h3 := h2.drop
 have hq := set_perm (famL T N F) i (rowE T r) hl
 rw [famL_set] at hq
 have h4 : Heap w0 Fr (famL T N (updR F i r) ++ L) W := by
  refine h3.perm ?_
  refine List.Perm.trans ?_ (hq.symm.append_right _)
  exact List.perm_middle
 exact h4.bundle
theorem Heap.push {T : TypeId} {N : Nat} {F : Nat → RowS} {r : RowS} (H : Heap w0 Fr (rowE T r :: L) W) (j : Nat) (hj : L[j]? = some (fam T N F)) {i : Nat} (hi : i < N) (hF : F i = RowS.nil) : Heap w0 Fr (L.set j (fam T N (updR F i r))) W := by
 obtain ⟨hlt, _⟩ := List.getElem?_eq_some_iff.1 hj
 have h0 : Heap w0 Fr (rowE T r :: fam T N F :: L.eraseIdx j) W := H.perm (List.Perm.cons _ (by
  have := pick_perm L j hlt
  have hg : L[j] = fam T N F := by
   rw [List.getElem?_eq_getElem hlt] at hj
   injection hj
  rwa [hg] at this))
 exact (h0.push1 hi hF).perm (set_perm L j _ hlt).symm
theorem Ents.row {T : TypeId} {N : Nat} {F : Nat → RowS} {j : Nat} {A : List Ent} (hE : Ents A W) (hj : A[j]? = some (fam T N F)) {i : Nat} (hi : i < N) : W.ownsRow 0 T 1 (.slice (F i).A (F i).n (F i).c) (F i).n ((F i).xs.map (Value.int .i64)) := by
 have h := (Heap.start hE).grp_ents j hj
 exact h.1 _ (List.mem_of_getElem? (famL_get hi))
/-- a row's head is a row -/
theorem Heap.shrink {size n c m : Nat} {B : Option Addr} {xs : List Value} {T : TypeId} (H : Heap w0 Fr L W) (j : Nat) (hj : L[j]? = some (ownN size (.slice B n c) n xs T)) (hm : m ≤ n) (h0 : B = none → m = 0 ∧ c = 0) : Heap w0 Fr (L.set j (ownN size (.slice B m c) m (xs.take (m * size)) T)) W := by
 refine H.at j hj (F' := (ownN size (.slice B n c) n xs T).ids) ⟨?_, ?_, ?_, Only.refl _ _⟩ (fun _ h => h)
 ·intro E hE
  rw [List.mem_singleton.1 hE]
  have ho := H.own_get j hj
  show W.ownsRow 0 T size (.slice B m c) m (xs.take (m * size))
  rcases ho.2 with ⟨e, h2⟩ | ⟨g, cap, cur, e, h1, h2, h3, h4, h5, h6⟩
  ·injection e with e1 e2 e3
   obtain ⟨rfl, rfl⟩ := h0 e1
   subst e1
   simp only [Nat.zero_mul, List.take_zero]
   exact World.ownsRow_nil W 0 T size
  ·injection e with e1 e2 e3
   subst e1; subst e3
   refine ⟨by rw [List.length_take, ho.1]; exact Nat.min_eq_left (Nat.mul_le_mul_right _ hm), .inr ⟨g, c, cur, rfl, h1, h2, by omega, h4, h5, ?_⟩⟩
   rw [← h6, List.take_take, Nat.min_eq_left (Nat.mul_le_mul_right _ hm)]
 ·simp [ids, ownN, Value.ownBlock]; cases B <;> simp
 ·intro i hi
  left
  simp only [ids, List.flatMap_cons, List.flatMap_nil, List.append_nil] at hi
  cases B <;> exact hi
theorem Heap.shrink2 {size n c m : Nat} {B : Option Addr} {xs : List Value} {T : TypeId} (H : Heap w0 Fr L W) (j : Nat) (hj : L[j]? = some (ownN size (.slice B n c) n xs T)) (hm : m ≤ n) : Heap w0 Fr (L.set j (ownN size (.slice B m c) m (xs.take (m * size)) T)) W := by
 refine H.shrink j hj hm fun hB => ?_
 subst hB
 rcases (H.own_get j hj).2 with ⟨e, h2⟩ | ⟨g, cap, cur, e, _⟩
 ·injection e with _ e2 e3
  exact ⟨by omega, e3⟩
 ·injection e with e1; cases e1
end
end Go.Proofs.Ytlakbclnilakbaa
end

section
namespace Go.Proofs.Ytlakbclnilakbaa
open Go.RowKit Go.MapKept
open Go.Maps (Keyed)
open Go.ChangeMaps (setBlock)
section
variable {P : Program} {k : TypeId} {α β : Type} [DecidableEq α] {C : KC P k α} {venc : β → Value} {es : Array MapEntry} {clock : Nat} {l : List (α × β)}
theorem set_inj {W : World} {b : Nat} {o o1 o2 : Obj} (h : W.heap[b]? = some o) (e : setBlock W b o1 = setBlock W b o2) : o1 = o2 := by
 have h1 := set_at W b o1 o h
 rw [e, set_at W b o2 o h] at h1
 injection h1 with h1
 exact h1.symm
theorem MapOk.entry {t e : TypeId} (h : MapOk C venc es clock l) (ht : P.underlying t = some (.map k e)) {z : Value} {W : World} (hz : (zeroValue e).run P W = .ok z W) {b : Nat} (hb : W.heap[b]? = some (.map es clock)) (a : α) (ga : C.Gd a) :
  ∃ (st : Nat) (es1 : Array MapEntry) (clock1 : Nat), (Instr.mapEntry t (.map (some b)) (C.enc a)).run P W = .ok (.tuple #[((mget l a).map venc).getD z, .int .i64 st]) (setBlock W b (.map es1 clock1)) ∧
   ∀ v : β, ∃ es' clock', MapOk C venc es' clock' (mput l a v) ∧ ∀ (W2 : World) (t2 : TypeId), W2.heap[b]? = some (.map es1 clock1) → (Instr.entryStore t2 (.map (some b)) (.int .i64 st) (venc v)).run P W2 = .ok () (setBlock W2 b (.map es' clock')) := by
 obtain ⟨lit, hk⟩ := C.good a ga
 have hput := fun v => h.put ht hb a ga v
 rcases h.find a ga W with ⟨h1, h2⟩ | ⟨j, p, x, h1, rfl, h3, h4, h5, h6⟩
 ·refine ⟨clock, es.push ⟨C.enc a, z, clock⟩, clock + 1, ?_, fun v => ?_⟩
  ·rw [(m_none l a h1).1]
   simp [Instr.mapEntry, run_underlying ht, MapKept.run_getObj_map hb, C.K.check W _ hk, h2, hz, MapKept.run_setObj_map _ hb, Result.andThen, setBlock, goInt]
  ·refine ⟨es.push ⟨C.enc a, venc v, clock⟩, clock + 1, ?_, fun W2 t2 hw2 => ?_⟩
   ·obtain ⟨es', clock', hr, hok⟩ := hput v
    have hr2 : (Instr.mapUpdate t (.map (some b)) (C.enc a) (venc v)).run P W = .ok () (setBlock W b (.map (es.push ⟨C.enc a, venc v, clock⟩) (clock + 1))) := by
     simp [Instr.mapUpdate, run_underlying ht, MapKept.run_getObj_map hb, C.K.check W _ hk, h2, MapKept.run_setObj_map _ hb, Result.andThen, setBlock]
    rw [hr] at hr2
    injection hr2 with _ hr2
    have := set_inj hb hr2
    injection this with e1 e2
    rw [← e1, ← e2]; exact hok
   ·have hidx : (es.push ⟨C.enc a, z, clock⟩).findIdx? (fun e => ((e.born : Nat) : Int) == ((clock : Nat) : Int)) = some es.size := by
     rw [WideElems.findIdx_arr]
     exact WideElems.findIdx_born (l := (es.push ⟨C.enc a, z, clock⟩).toList) (j := es.size) (e0 := ⟨C.enc a, z, clock⟩) (by
      simp only [Array.toList_push, List.map_append, List.map_cons, List.map_nil]
      refine List.nodup_append.2 ⟨h.bn, by simp, fun a ha c hc e1 => ?_⟩
      simp only [List.mem_singleton] at hc
      obtain ⟨x, hx, rfl⟩ := List.mem_map.1 ha
      have := h.born x hx
      omega) (by simp)
    have hmod : (es.push ⟨C.enc a, z, clock⟩).modify es.size (fun e => { e with val := venc v }) = es.push ⟨C.enc a, venc v, clock⟩ := by
     apply Array.ext'
     rw [Array.toList_modify, Array.toList_push, Array.toList_push, ← Array.length_toList, WideElems.modify_last]
    simp [Instr.entryStore, MapKept.run_getObj_map hw2, asInt, asIntOf, goInt, hidx, hmod, MapKept.run_setObj_map _ hw2, Result.andThen, setBlock]
 ·have hst := C.K.stays W hk
  have hxa : es[j]? = some x := by rw [← Array.getElem?_toList]; exact h3
  have hsame : es.modify j (fun e => { e with key := C.enc p.1 }) = es := by
   apply Array.ext'
   rw [Array.toList_modify, ChangeMaps.modify_eq_set _ _ _ _ h3]
   have : ({ x with key := C.enc p.1 } : MapEntry) = x := by rw [← h4]
   rw [this]
   exact WideElems.set_self _ _ _ h3
  refine ⟨x.born, es, clock, ?_, fun v => ?_⟩
  ·rw [(m_some l j p h1 h.nd).1]
   simp [Instr.mapEntry, run_underlying ht, MapKept.run_getObj_map hb, C.K.check W _ hk, h6, hxa, h4, h5, hst, hsame, MapKept.run_setObj_map _ hb, Result.andThen, setBlock, goInt]
  ·obtain ⟨es', clock', hr, hok⟩ := hput v
   refine ⟨es', clock', hok, fun W2 t2 hw2 => ?_⟩
   have hr2 : (Instr.mapUpdate t (.map (some b)) (C.enc p.1) (venc v)).run P W = .ok () (setBlock W b (.map (es.modify j fun e => { e with key := C.enc p.1, val := venc v }) clock)) := by
    simp [Instr.mapUpdate, run_underlying ht, MapKept.run_getObj_map hb, C.K.check W _ hk, h6, hxa, h4, hst, MapKept.run_setObj_map _ hb, Result.andThen, setBlock]
   rw [hr] at hr2
   injection hr2 with _ hr2
   have := set_inj hb hr2
   injection this with e1 e2
   subst e1; subst e2
   have hidx : es.findIdx? (fun e => ((e.born : Nat) : Int) == ((x.born : Nat) : Int)) = some j := by
    rw [WideElems.findIdx_arr]
    exact WideElems.findIdx_born h.bn h3
   have hmod : es.modify j (fun e => { e with val := venc v }) = es.modify j (fun e' => { e' with key := C.enc p.1, val := venc v }) := by
    apply Array.ext'
    rw [Array.toList_modify, Array.toList_modify, ChangeMaps.modify_eq_set _ _ _ _ h3, ChangeMaps.modify_eq_set _ _ _ _ h3, ← h4]
   simp [Instr.entryStore, MapKept.run_getObj_map hw2, asInt, asIntOf, goInt, hidx, hmod, MapKept.run_setObj_map _ hw2, Result.andThen, setBlock]
end
section
variable {P : Program} {kt : TypeId} {α β : Type} [DecidableEq α]
end
section
variable {P : Program} {ops : Array Oper} {rest : List Oper} {n : Sz} {k : Nat} {f : Nat → Value} {W w0 : World} {F : List Nat} {L : List Ent} {Q : Exit → Act → World → Prop} {ty : TypeId} {pos : String} {af : Array Edge} {g : Option (Nat × Bool)} {x y u s : Operand} {t e kt : TypeId} {v z : Value} {dst : Option Tmp}
variable {α β : Type} [DecidableEq α] {C : KC P kt α} {venc : β → Value} {b : Nat} {l : List (α × β)} {a : α} {q : β}
end
end Go.Proofs.Ytlakbclnilakbaa
end

section
namespace Go.Proofs.Ytlakbclnilakbaa
open Go.RowKit
section
variable {P : Program} {ops : Array Oper} {rest : List Oper} {n : Sz} {k k2 : Nat} {f : Nat → Value} {W w0 : World} {F : List Nat} {L : List Ent} {Q : Exit → Act → World → Prop} {ty ty2 : TypeId} {pos pos2 : String} {af af2 : Array Edge} {g : Option (Nat × Bool)} {x y s : Operand} {v u : Value} {t e : TypeId}
end
end Go.Proofs.Ytlakbclnilakbaa
end

section
namespace Go.Proofs.Ytlakbclnilakbaa
open Go.RowKit
set_option maxRecDepth 100000
set_option maxHeartbeats 4000000
theorem oDec' (a x : Int) (w : World) (ha : -9223372036854775808 ≤ a ∧ a ≤ 9223372036854775807) (hx : 0 ≤ x ∧ x ≤ 18446744073709551615) :
  Calls Try.prog 119 [.int .i64 a, .int .u64 x].toArray w fun e w' => e = .returned (.tuple [.agg [.int .i64 (Oh.decP x a), .int .i64 (Oh.decD x a)].toArray, .int .i64 (Oh.decE x a)].toArray) ∧ Only [] w w' :=
 (oDec_any a x w ha.1 ha.2 hx.1 hx.2).mono fun e w' h => ⟨h.1, Only.of_below h.2 _⟩
theorem oSize' (p d : Int) (w : World) (hp : 0 ≤ p ∧ p ≤ 1000000) (hd : 0 ≤ d ∧ d ≤ 1000000) :
  Calls Try.prog 121 [.agg [.int .i64 p, .int .i64 d].toArray].toArray w fun e w' => e = .returned (.int .i64 (Cl.size p d)) ∧ Only [] w w' :=
 (oSize_any p d w (by omega) (by omega) (by omega) (by omega)).mono fun e w' h => ⟨h.1, Only.of_below h.2 _⟩
theorem oSmall' (p d : Int) (w : World) (hp : 0 ≤ p ∧ p ≤ 1000000) (hd : 0 ≤ d ∧ d ≤ 1000000) :
  Calls Try.prog 113 [.agg [.int .i64 p, .int .i64 d].toArray].toArray w fun e w' => e = .returned (.tuple [.int .i64 (Cl.ofK (Cl.size p d)), .bool (Cl.ofB (Cl.size p d))].toArray) ∧ Only [] w w' :=
 (oSmall_any p d w (by omega) (by omega) (by omega) (by omega)).mono fun e w' h => ⟨h.1, Only.of_below h.2 _⟩
theorem oBlocks' (p d : Int) (w : World) (hp : 0 ≤ p ∧ p ≤ 1000000) (hd : 0 ≤ d ∧ d ≤ 1000000) :
  Calls Try.prog 117 [.agg [.int .i64 p, .int .i64 d].toArray].toArray w fun e w' => e = .returned (.int .i64 (Oh.blocks p d)) ∧ Only [] w w' :=
 (oBlocks_any p d w (by omega) (by omega) (by omega) (by omega)).mono fun e w' h => ⟨h.1, Only.of_below h.2 _⟩
theorem oPtr' (p d i : Int) (w : World) (hp : 0 ≤ p ∧ p ≤ 63) (hd : 0 ≤ d ∧ d ≤ 16384) (hi : 0 ≤ i ∧ i ≤ 100000) :
  Calls Try.prog 145 [.agg [.int .i64 p, .int .i64 d].toArray, .int .i64 i].toArray w fun e w' => e = .returned (.tuple [.int .i64 (1 + i), .bool (Oh.inB i p)].toArray) ∧ Only [] w w' :=
 (oPtr_any p d i w hp.1 hp.2 hd.1 hd.2 (by omega) (by omega)).mono fun e w' h => ⟨h.1, Only.of_below h.2 _⟩
theorem gBlockOf' (n a : Int) (w : World) (hn : 0 ≤ n ∧ n ≤ 1000000) (ha : -9223372036854775808 ≤ a ∧ a ≤ 9223372036854775807) :
  Calls Try.prog 112 [.agg [.int .i64 n].toArray, .int .i64 a].toArray w fun e w' => e = .returned (.int .i64 (blockOf n a)) ∧ Only [] w w' :=
 (gBlockOf_any n a w hn.1 hn.2 ha.1 ha.2).mono fun e w' h => ⟨h.1, Only.of_below h.2 _⟩
theorem gFirst' (n b : Int) (w : World) (hn : n ≤ 1000000) (hb : -9223372036854775808 ≤ b) :
  Calls Try.prog 116 [.agg [.int .i64 n].toArray, .int .i64 b].toArray w fun e w' => e = .returned (.int .i64 (Ce.first n b)) ∧ Only [] w w' :=
 (gFirst_any n b w hb hn).mono fun e w' h => ⟨h.1, Only.of_below h.2 _⟩
theorem cAt' (n k a : Int) (w : World) (hn : 0 ≤ n ∧ n ≤ 1000000) (ha : 512 ≤ a ∧ a < 512 * n) (hk : 0 ≤ k ∧ k < 32) :
  Calls Try.prog 114 [.agg [.int .i64 n].toArray, .int .i64 k, .int .i64 a].toArray w fun e w' => e = .returned (.tuple [.agg [.int .i64 (a / 512), .int .i64 (a % 512 / Cl.words k)].toArray, .bool (Ce.address n k (a / 512) (a % 512 / Cl.words k) == a)].toArray) ∧ Only [] w w' :=
 (cAt_in n k a w hn.1 hn.2 ha.1 ha.2 hk.1 hk.2).mono fun e w' h => ⟨h.1, Only.of_below h.2 _⟩
section
variable {g : Geo} {d : Nv.D} {w : World}
theorem obHead (hE : Ents (devL g d) w) (hw : Ob.W64 d.cache) (hl : d.cache.length ≤ 1000000000) (a : Int) (ha : -9223372036854775808 ≤ a ∧ a ≤ 9223372036854775807) :
  Calls Try.prog 91 [ptr g.p, .int .i64 a].toArray w fun e w' => e = .returned (.tuple [.agg [.int .i64 (Ob.hp d.cache a), .int .i64 (Ob.hq d.cache a)].toArray, .int .i64 (Ob.he d.cache a)].toArray) ∧ Only [] w w' := by
 have HR := Heap.start hE
 have H := Heap.nil w
 have hLn := fun {W : World} (h : Only [] w W) => nLen g d W (HR.same h).ents
 by_cases hin : 0 ≤ a ∧ a < (d.cache.length : Int)
 ·have hG := fun {W : World} (h : Only [] w W) => nGet g d a W (HR.same h).ents
  have hx := Ob.get_bd hw a
  have hD := fun (W : World) => oDec' a (Nv.get d.cache a) W ha hx
  have hb := Ob.dec_bd (Nv.get d.cache a) a hx.1
  by_cases he : Oh.decE (Nv.get d.cache a) a = 0
  ·have hS := fun (W : World) => oSize' (Oh.decP (Nv.get d.cache a) a) (Oh.decD (Nv.get d.cache a) a) W (by omega) (by omega)
   have hsb := Cl.size_bd (Oh.decP (Nv.get d.cache a) a) (Oh.decD (Nv.get d.cache a) a)
   rw [he] at hD
   by_cases hs : Cl.size (Oh.decP (Nv.get d.cache a) a) (Oh.decD (Nv.get d.cache a) a) ≤ (d.cache.length : Int) - a
   ·have hh := Ob.hd_mk hin he hs
    unfold Ob.hp Ob.hq Ob.he
    rw [if_pos hh, if_pos hh, if_pos hh]
    refine k_in (N := 38) Try.func91 rfl rfl rfl ?_
    refine k_sg ?_
    refine s_al H rfl inf149 ?_
    intro p4 _ H'; clear H; have H := H'; clear H'
    refine s_run rfl rfl (rai rfl) ?_
    refine k_nc ?_
    refine k_seq ?_
    refine k_sg ?_
    refine s_run rfl rfl (rmi rfl) ?_
    refine s_run rfl rfl (r_lssF rfl rfl (by omega)) ?_
    refine s_run rfl rfl (rmb rfl) ?_
    refine s_run rfl (g_on 10 (by kernel_rfl) rfl) (rmi rfl) ?_
    refine s_run rfl (g_on 10 (by kernel_rfl) rfl) (rmp rfl) ?_
    refine s_call (g_on 10 (by kernel_rfl) rfl) (hLn H.only) (ca118 rfl) ?_
    rintro e W1 ⟨rfl, H'⟩
    refine ⟨_, rfl, ?_⟩
    have H := H.same H'; clear H'
    refine s_run rfl (g_on 10 (by kernel_rfl) rfl) (r_geqF rfl rfl (by omega)) ?_
    refine s_run rfl rfl (r_pkF (v := .bool _) rfl rfl) ?_
    refine k_nc ?_
    refine k_f rfl ?_
    refine k_skip ?_
    refine c_norm ?_
    refine k_sg ?_
    refine s_run rfl rfl (rmi rfl) ?_
    refine s_run rfl rfl (rmp rfl) ?_
    refine s_run rfl rfl (rmi rfl) ?_
    refine s_call rfl (hG H.only) (ca120 rfl) ?_
    rintro e W1 ⟨rfl, H'⟩
    refine ⟨_, rfl, ?_⟩
    have H := H.same H'; clear H'
    refine s_call rfl (hD _) (ca119 rfl) ?_
    rintro e W1 ⟨rfl, H'⟩
    refine ⟨_, rfl, ?_⟩
    have H := H.same H'; clear H'
    refine s_run rfl rfl (rmt rfl) ?_
    refine s_run rfl rfl (r_ext (v := .agg _) rfl rfl) ?_
    refine s_run rfl rfl (r_ext (v := .int _ _) rfl rfl) ?_
    refine s_al H rfl inf149 ?_
    intro p6 _ H'; clear H; have H := H'; clear H'
    refine s_sw H 0 rfl rfl rfl rfl rfl rfl rfl sz149 ?_
    clear H; intro _ H; simp only [jA, jB, jC, jD, jE, jF, jG, jH, jI, jJ, jK, Nat.reduceAdd] at H
    refine s_run rfl rfl (rai rfl) ?_
    refine k_nc ?_
    refine k_seq ?_
    refine k_sg ?_
    refine s_run rfl rfl (rmi rfl) ?_
    refine s_run rfl rfl (r_neqF rfl rfl (by omega)) ?_
    refine s_run rfl rfl (rmb rfl) ?_
    refine s_run rfl (g_on 27 (by kernel_rfl) rfl) (r_la H 0 rfl rfl rfl ag149 sz149) ?_
    refine s_call (g_on 27 (by kernel_rfl) rfl) (hS _) (ca121 rfl) ?_
    rintro e W1 ⟨rfl, H'⟩
    refine ⟨_, rfl, ?_⟩
    have H := H.same H'; clear H'
    refine s_run rfl (g_on 27 (by kernel_rfl) rfl) (rmp rfl) ?_
    refine s_call (g_on 27 (by kernel_rfl) rfl) (hLn H.only) (ca118 rfl) ?_
    rintro e W1 ⟨rfl, H'⟩
    refine ⟨_, rfl, ?_⟩
    have H := H.same H'; clear H'
    refine s_run rfl (g_on 27 (by kernel_rfl) rfl) (rmi rfl) ?_
    refine s_run rfl (g_on 27 (by kernel_rfl) rfl) (r_sub rfl rfl (wI (by omega))) ?_
    refine s_run rfl (g_on 27 (by kernel_rfl) rfl) (r_gtrF rfl rfl (by omega)) ?_
    refine s_run rfl rfl (r_pkF (v := .bool _) rfl rfl) ?_
    refine k_nc ?_
    refine k_f rfl ?_
    refine k_skip ?_
    refine c_norm ?_
    refine k_sg ?_
    refine s_run rfl rfl (r_la H 0 rfl rfl rfl ag149 sz149) ?_
    refine s_sw H 1 rfl rfl rfl rfl rfl rfl rfl sz149 ?_
    clear H; intro _ H; simp only [jA, jB, jC, jD, jE, jF, jG, jH, jI, jJ, jK, Nat.reduceAdd] at H
    refine s_run rfl rfl (rai rfl) ?_
    refine k_nc ?_
    refine k_ret ?_
    refine fx2r rfl (rv_a H 1 rfl rfl rfl ag149 sz149) (rv_t (v := .int _ _) rfl) ?_
    exact ⟨rfl, H.only⟩
   ·have hh := Ob.hd_far hs
    unfold Ob.hp Ob.hq Ob.he
    rw [hh, if_neg (by simp), if_neg (by simp), if_neg (by simp)]
    refine k_in (N := 38) Try.func91 rfl rfl rfl ?_
    refine k_sg ?_
    refine s_al H rfl inf149 ?_
    intro p4 _ H'; clear H; have H := H'; clear H'
    refine s_run rfl rfl (rai rfl) ?_
    refine k_nc ?_
    refine k_seq ?_
    refine k_sg ?_
    refine s_run rfl rfl (rmi rfl) ?_
    refine s_run rfl rfl (r_lssF rfl rfl (by omega)) ?_
    refine s_run rfl rfl (rmb rfl) ?_
    refine s_run rfl (g_on 10 (by kernel_rfl) rfl) (rmi rfl) ?_
    refine s_run rfl (g_on 10 (by kernel_rfl) rfl) (rmp rfl) ?_
    refine s_call (g_on 10 (by kernel_rfl) rfl) (hLn H.only) (ca118 rfl) ?_
    rintro e W1 ⟨rfl, H'⟩
    refine ⟨_, rfl, ?_⟩
    have H := H.same H'; clear H'
    refine s_run rfl (g_on 10 (by kernel_rfl) rfl) (r_geqF rfl rfl (by omega)) ?_
    refine s_run rfl rfl (r_pkF (v := .bool _) rfl rfl) ?_
    refine k_nc ?_
    refine k_f rfl ?_
    refine k_skip ?_
    refine c_norm ?_
    refine k_sg ?_
    refine s_run rfl rfl (rmi rfl) ?_
    refine s_run rfl rfl (rmp rfl) ?_
    refine s_run rfl rfl (rmi rfl) ?_
    refine s_call rfl (hG H.only) (ca120 rfl) ?_
    rintro e W1 ⟨rfl, H'⟩
    refine ⟨_, rfl, ?_⟩
    have H := H.same H'; clear H'
    refine s_call rfl (hD _) (ca119 rfl) ?_
    rintro e W1 ⟨rfl, H'⟩
    refine ⟨_, rfl, ?_⟩
    have H := H.same H'; clear H'
    refine s_run rfl rfl (rmt rfl) ?_
    refine s_run rfl rfl (r_ext (v := .agg _) rfl rfl) ?_
    refine s_run rfl rfl (r_ext (v := .int _ _) rfl rfl) ?_
    refine s_al H rfl inf149 ?_
    intro p6 _ H'; clear H; have H := H'; clear H'
    refine s_sw H 0 rfl rfl rfl rfl rfl rfl rfl sz149 ?_
    clear H; intro _ H; simp only [jA, jB, jC, jD, jE, jF, jG, jH, jI, jJ, jK, Nat.reduceAdd] at H
    refine s_run rfl rfl (rai rfl) ?_
    refine k_nc ?_
    refine k_seq ?_
    refine k_sg ?_
    refine s_run rfl rfl (rmi rfl) ?_
    refine s_run rfl rfl (r_neqF rfl rfl (by omega)) ?_
    refine s_run rfl rfl (rmb rfl) ?_
    refine s_run rfl (g_on 27 (by kernel_rfl) rfl) (r_la H 0 rfl rfl rfl ag149 sz149) ?_
    refine s_call (g_on 27 (by kernel_rfl) rfl) (hS _) (ca121 rfl) ?_
    rintro e W1 ⟨rfl, H'⟩
    refine ⟨_, rfl, ?_⟩
    have H := H.same H'; clear H'
    refine s_run rfl (g_on 27 (by kernel_rfl) rfl) (rmp rfl) ?_
    refine s_call (g_on 27 (by kernel_rfl) rfl) (hLn H.only) (ca118 rfl) ?_
    rintro e W1 ⟨rfl, H'⟩
    refine ⟨_, rfl, ?_⟩
    have H := H.same H'; clear H'
    refine s_run rfl (g_on 27 (by kernel_rfl) rfl) (rmi rfl) ?_
    refine s_run rfl (g_on 27 (by kernel_rfl) rfl) (r_sub rfl rfl (wI (by omega))) ?_
    refine s_run rfl (g_on 27 (by kernel_rfl) rfl) (r_gtrT rfl rfl (by omega)) ?_
    refine s_run rfl rfl (r_pkF (v := .bool _) rfl rfl) ?_
    refine k_nc ?_
    refine k_t rfl ?_
    refine k_sg ?_
    refine s_run rfl rfl (r_bd (bd149 ) rfl) ?_
    refine s_sw H 1 rfl rfl rfl rfl rfl rfl rfl sz149 ?_
    clear H; intro _ H; simp only [jA, jB, jC, jD, jE, jF, jG, jH, jI, jJ, jK, Nat.reduceAdd] at H
    refine s_run rfl rfl (rai rfl) ?_
    refine k_nc ?_
    refine k_ret ?_
    refine c_ret ?_
    refine fx2r rfl (rv_a H 1 rfl rfl rfl ag149 sz149) (rv_t (v := .int _ _) rfl) ?_
    exact ⟨rfl, H.only⟩
  ·have hh := Ob.hd_bad he
   unfold Ob.hp Ob.hq Ob.he
   rw [hh, if_neg (by simp), if_neg (by simp), if_neg (by simp)]
   refine k_in (N := 38) Try.func91 rfl rfl rfl ?_
   refine k_sg ?_
   refine s_al H rfl inf149 ?_
   intro p4 _ H'; clear H; have H := H'; clear H'
   refine s_run rfl rfl (rai rfl) ?_
   refine k_nc ?_
   refine k_seq ?_
   refine k_sg ?_
   refine s_run rfl rfl (rmi rfl) ?_
   refine s_run rfl rfl (r_lssF rfl rfl (by omega)) ?_
   refine s_run rfl rfl (rmb rfl) ?_
   refine s_run rfl (g_on 10 (by kernel_rfl) rfl) (rmi rfl) ?_
   refine s_run rfl (g_on 10 (by kernel_rfl) rfl) (rmp rfl) ?_
   refine s_call (g_on 10 (by kernel_rfl) rfl) (hLn H.only) (ca118 rfl) ?_
   rintro e W1 ⟨rfl, H'⟩
   refine ⟨_, rfl, ?_⟩
   have H := H.same H'; clear H'
   refine s_run rfl (g_on 10 (by kernel_rfl) rfl) (r_geqF rfl rfl (by omega)) ?_
   refine s_run rfl rfl (r_pkF (v := .bool _) rfl rfl) ?_
   refine k_nc ?_
   refine k_f rfl ?_
   refine k_skip ?_
   refine c_norm ?_
   refine k_sg ?_
   refine s_run rfl rfl (rmi rfl) ?_
   refine s_run rfl rfl (rmp rfl) ?_
   refine s_run rfl rfl (rmi rfl) ?_
   refine s_call rfl (hG H.only) (ca120 rfl) ?_
   rintro e W1 ⟨rfl, H'⟩
   refine ⟨_, rfl, ?_⟩
   have H := H.same H'; clear H'
   refine s_call rfl (hD _) (ca119 rfl) ?_
   rintro e W1 ⟨rfl, H'⟩
   refine ⟨_, rfl, ?_⟩
   have H := H.same H'; clear H'
   refine s_run rfl rfl (rmt rfl) ?_
   refine s_run rfl rfl (r_ext (v := .agg _) rfl rfl) ?_
   refine s_run rfl rfl (r_ext (v := .int _ _) rfl rfl) ?_
   refine s_al H rfl inf149 ?_
   intro p6 _ H'; clear H; have H := H'; clear H'
   refine s_sw H 0 rfl rfl rfl rfl rfl rfl rfl sz149 ?_
   clear H; intro _ H; simp only [jA, jB, jC, jD, jE, jF, jG, jH, jI, jJ, jK, Nat.reduceAdd] at H
   refine s_run rfl rfl (rai rfl) ?_
   refine k_nc ?_
   refine k_seq ?_
   refine k_sg ?_
   refine s_run rfl rfl (rmi rfl) ?_
   refine s_run rfl rfl (r_neqT rfl rfl (by omega)) ?_
   refine s_run rfl rfl (rmb rfl) ?_
   refine s_off rfl (g_off 27 (by kernel_rfl) rfl rfl) ?_
   refine s_off rfl (g_off 27 (by kernel_rfl) rfl rfl) ?_
   refine s_off rfl (g_off 27 (by kernel_rfl) rfl rfl) ?_
   refine s_off rfl (g_off 27 (by kernel_rfl) rfl rfl) ?_
   refine s_off rfl (g_off 27 (by kernel_rfl) rfl rfl) ?_
   refine s_off rfl (g_off 27 (by kernel_rfl) rfl rfl) ?_
   refine s_off rfl (g_off 27 (by kernel_rfl) rfl rfl) ?_
   refine s_run rfl rfl (r_pkT (v := .bool _) rfl rfl) ?_
   refine k_nc ?_
   refine k_t rfl ?_
   refine k_sg ?_
   refine s_run rfl rfl (r_bd (bd149 ) rfl) ?_
   refine s_sw H 1 rfl rfl rfl rfl rfl rfl rfl sz149 ?_
   clear H; intro _ H; simp only [jA, jB, jC, jD, jE, jF, jG, jH, jI, jJ, jK, Nat.reduceAdd] at H
   refine s_run rfl rfl (rai rfl) ?_
   refine k_nc ?_
   refine k_ret ?_
   refine c_ret ?_
   refine fx2r rfl (rv_a H 1 rfl rfl rfl ag149 sz149) (rv_t (v := .int _ _) rfl) ?_
   exact ⟨rfl, H.only⟩
 ·have hh := Ob.hd_out hin
  unfold Ob.hp Ob.hq Ob.he
  rw [hh, if_neg (by simp), if_neg (by simp), if_neg (by simp)]
  by_cases h0 : a < 0
  ·refine k_in (N := 38) Try.func91 rfl rfl rfl ?_
   refine k_sg ?_
   refine s_al H rfl inf149 ?_
   intro p4 _ H'; clear H; have H := H'; clear H'
   refine s_run rfl rfl (rai rfl) ?_
   refine k_nc ?_
   refine k_seq ?_
   refine k_sg ?_
   refine s_run rfl rfl (rmi rfl) ?_
   refine s_run rfl rfl (r_lssT rfl rfl (by omega)) ?_
   refine s_run rfl rfl (rmb rfl) ?_
   refine s_off rfl (g_off 10 (by kernel_rfl) rfl rfl) ?_
   refine s_off rfl (g_off 10 (by kernel_rfl) rfl rfl) ?_
   refine s_off rfl (g_off 10 (by kernel_rfl) rfl rfl) ?_
   refine s_off rfl (g_off 10 (by kernel_rfl) rfl rfl) ?_
   refine s_run rfl rfl (r_pkT (v := .bool _) rfl rfl) ?_
   refine k_nc ?_
   refine k_t rfl ?_
   refine k_sg ?_
   refine s_run rfl rfl (r_bd (bd149 ) rfl) ?_
   refine s_sw H 0 rfl rfl rfl rfl rfl rfl rfl sz149 ?_
   clear H; intro _ H; simp only [jA, jB, jC, jD, jE, jF, jG, jH, jI, jJ, jK, Nat.reduceAdd] at H
   refine s_run rfl rfl (rai rfl) ?_
   refine k_nc ?_
   refine k_ret ?_
   refine c_ret ?_
   refine fx2r rfl (rv_a H 0 rfl rfl rfl ag149 sz149) (rv_t (v := .int _ _) rfl) ?_
   exact ⟨rfl, H.only⟩
  ·refine k_in (N := 38) Try.func91 rfl rfl rfl ?_
   refine k_sg ?_
   refine s_al H rfl inf149 ?_
   intro p4 _ H'; clear H; have H := H'; clear H'
   refine s_run rfl rfl (rai rfl) ?_
   refine k_nc ?_
   refine k_seq ?_
   refine k_sg ?_
   refine s_run rfl rfl (rmi rfl) ?_
   refine s_run rfl rfl (r_lssF rfl rfl (by omega)) ?_
   refine s_run rfl rfl (rmb rfl) ?_
   refine s_run rfl (g_on 10 (by kernel_rfl) rfl) (rmi rfl) ?_
   refine s_run rfl (g_on 10 (by kernel_rfl) rfl) (rmp rfl) ?_
   refine s_call (g_on 10 (by kernel_rfl) rfl) (hLn H.only) (ca118 rfl) ?_
   rintro e W1 ⟨rfl, H'⟩
   refine ⟨_, rfl, ?_⟩
   have H := H.same H'; clear H'
   refine s_run rfl (g_on 10 (by kernel_rfl) rfl) (r_geqT rfl rfl (by omega)) ?_
   refine s_run rfl rfl (r_pkF (v := .bool _) rfl rfl) ?_
   refine k_nc ?_
   refine k_t rfl ?_
   refine k_sg ?_
   refine s_run rfl rfl (r_bd (bd149 ) rfl) ?_
   refine s_sw H 0 rfl rfl rfl rfl rfl rfl rfl sz149 ?_
   clear H; intro _ H; simp only [jA, jB, jC, jD, jE, jF, jG, jH, jI, jJ, jK, Nat.reduceAdd] at H
   refine s_run rfl rfl (rai rfl) ?_
   refine k_nc ?_
   refine k_ret ?_
   refine c_ret ?_
   refine fx2r rfl (rv_a H 0 rfl rfl rfl ag149 sz149) (rv_t (v := .int _ _) rfl) ?_
   exact ⟨rfl, H.only⟩
theorem obField (hE : Ents (devL g d) w) (hw : Ob.W64 d.cache) (hl : d.cache.length ≤ 1000000000) (a i : Int) (hh : Ob.hd d.cache a = true) (hi : 0 ≤ i ∧ i < Ob.hp d.cache a) :
  Calls Try.prog 122 [ptr g.p, .int .i64 a, .int .i64 i, .bool false].toArray w fun e w' => e = .returned (.tuple [.int .i64 (a + (1 + i)), .int .i64 0].toArray) ∧ Only [] w w' := by
 have HR := Heap.start hE
 have H := Heap.nil w
 have hy := Ob.hd_yes hh
 have hb := Ob.hp_bd hw a
 have hH := fun {W : World} (h : Only [] w W) => obHead (HR.same h).ents hw hl a (by omega)
 have hP := fun (W : World) => oPtr' (Ob.hp d.cache a) (Ob.hq d.cache a) i W (by omega) (by omega) (by omega)
 rw [Oh.inB_yes i _ hi.1 hi.2] at hP
 have he : Ob.he d.cache a = 0 := by unfold Ob.he; rw [if_pos hh]
 rw [he] at hH
 refine k_in (N := 41) Try.func122 rfl rfl rfl ?_
 refine k_sg ?_
 refine s_run rfl rfl (rai rfl) ?_
 refine s_run rfl rfl (rai rfl) ?_
 refine k_nc ?_
 refine k_sg ?_
 refine s_run rfl rfl (rmp rfl) ?_
 refine s_run rfl rfl (rmi rfl) ?_
 refine s_call rfl (hH H.only) (ca91 rfl) ?_
 rintro e W1 ⟨rfl, H'⟩
 refine ⟨_, rfl, ?_⟩
 have H := H.same H'; clear H'
 refine s_run rfl rfl (rmt rfl) ?_
 refine s_run rfl rfl (r_ext (v := .agg _) rfl rfl) ?_
 refine s_run rfl rfl (r_ext (v := .int _ _) rfl rfl) ?_
 refine s_al H rfl inf149 ?_
 intro p10 _ H'; clear H; have H := H'; clear H'
 refine s_sw H 0 rfl rfl rfl rfl rfl rfl rfl sz149 ?_
 clear H; intro _ H; simp only [jA, jB, jC, jD, jE, jF, jG, jH, jI, jJ, jK, Nat.reduceAdd] at H
 refine s_run rfl rfl (rai rfl) ?_
 refine k_nc ?_
 refine k_seq ?_
 refine k_sg ?_
 refine s_run rfl rfl (rmi rfl) ?_
 refine s_run rfl rfl (r_neqF rfl rfl (by omega)) ?_
 refine k_nc ?_
 refine k_f rfl ?_
 refine k_skip ?_
 refine c_norm ?_
 refine k_sg ?_
 refine s_run rfl rfl (r_la H 0 rfl rfl rfl ag149 sz149) ?_
 refine s_run rfl rfl (rmi rfl) ?_
 refine s_call rfl (hP _) (ca145 rfl) ?_
 rintro e W1 ⟨rfl, H'⟩
 refine ⟨_, rfl, ?_⟩
 have H := H.same H'; clear H'
 refine s_run rfl rfl (rmt rfl) ?_
 refine s_run rfl rfl (r_ext (v := .int _ _) rfl rfl) ?_
 refine s_run rfl rfl (r_ext (v := .bool _) rfl rfl) ?_
 refine s_run rfl rfl (rai rfl) ?_
 refine s_run rfl rfl (rab rfl) ?_
 refine k_nc ?_
 refine k_seq ?_
 refine k_sg ?_
 refine s_run rfl rfl (rmb rfl) ?_
 refine k_nc ?_
 refine k_f rfl ?_
 refine k_skip ?_
 refine c_norm ?_
 refine k_seq ?_
 refine k_sg ?_
 refine s_run rfl rfl (rmb rfl) ?_
 refine s_run rfl rfl (r_notT rfl) ?_
 refine k_nc ?_
 refine k_f rfl ?_
 refine k_skip ?_
 refine c_norm ?_
 refine k_sg ?_
 refine s_run rfl rfl (rmi rfl) ?_
 refine s_run rfl rfl (rmi rfl) ?_
 refine s_run rfl rfl (r_add rfl rfl (wI (by omega))) ?_
 refine s_run rfl rfl (rai rfl) ?_
 refine s_run rfl rfl (rai rfl) ?_
 refine k_nc ?_
 refine k_ret ?_
 refine fin2r (v := .int _ _) (v2 := .int _ _) rfl rfl rfl ?_
 exact ⟨rfl, H.only⟩
theorem obPtr (hE : Ents (devL g d) w) (hw : Ob.W64 d.cache) (hl : d.cache.length ≤ 1000000000) (a i : Int) (hh : Ob.hd d.cache a = true) (hi : 0 ≤ i ∧ i < Ob.hp d.cache a) :
  Calls Try.prog 92 [ptr g.p, .int .i64 a, .int .i64 i].toArray w fun e w' => e = .returned (.tuple [.int .i64 (Ob.pAt d.cache (a + (1 + i))), .int .i64 0].toArray) ∧ Only [] w w' := by
 have HR := Heap.start hE
 have H := Heap.nil w
 have hy := Ob.hd_yes hh
 have hb := Ob.hp_bd hw a
 have hF := fun {W : World} (h : Only [] w W) => obField (HR.same h).ents hw hl a i hh hi
 have hG := fun {W : World} (h : Only [] w W) => nGet g d (a + (1 + i)) W (HR.same h).ents
 have hx := Ob.get_bd hw (a + (1 + i))
 have hpb := Ob.pAt_bd hw (a + (1 + i))
 have hm : (if 1099511627776 < Nv.get d.cache (a + (1 + i)) then 1099511627776 else Nv.get d.cache (a + (1 + i))) = Ob.pAt d.cache (a + (1 + i)) := by unfold Ob.pAt; rw [Int.min_def]; split <;> split <;> omega
 refine k_in (N := 25) Try.func92 rfl rfl rfl ?_
 refine k_sg ?_
 refine s_run rfl rfl (rai rfl) ?_
 refine s_run rfl rfl (rai rfl) ?_
 refine k_nc ?_
 refine k_sg ?_
 refine s_run rfl rfl (rmp rfl) ?_
 refine s_run rfl rfl (rmi rfl) ?_
 refine s_run rfl rfl (rmi rfl) ?_
 refine s_call rfl (hF H.only) (ca122 rfl) ?_
 rintro e W1 ⟨rfl, H'⟩
 refine ⟨_, rfl, ?_⟩
 have H := H.same H'; clear H'
 refine s_run rfl rfl (rmt rfl) ?_
 refine s_run rfl rfl (r_ext (v := .int _ _) rfl rfl) ?_
 refine s_run rfl rfl (r_ext (v := .int _ _) rfl rfl) ?_
 refine s_run rfl rfl (rai rfl) ?_
 refine s_run rfl rfl (rai rfl) ?_
 refine k_nc ?_
 refine k_seq ?_
 refine k_sg ?_
 refine s_run rfl rfl (rmi rfl) ?_
 refine s_run rfl rfl (r_neqF rfl rfl (by omega)) ?_
 refine k_nc ?_
 refine k_f rfl ?_
 refine k_skip ?_
 refine c_norm ?_
 refine k_sg ?_
 refine s_run rfl rfl (rmp rfl) ?_
 refine s_run rfl rfl (rmi rfl) ?_
 refine s_call rfl (hG H.only) (ca120 rfl) ?_
 rintro e W1 ⟨rfl, H'⟩
 refine ⟨_, rfl, ?_⟩
 have H := H.same H'; clear H'
 refine s_run rfl rfl (r_min rfl rfl hm) ?_
 refine s_run rfl rfl (r_cv rfl (by kernel_rfl) Try.underlying3 (wI (by omega))) ?_
 refine s_run rfl rfl (rai rfl) ?_
 refine s_run rfl rfl (rai rfl) ?_
 refine k_nc ?_
 refine k_ret ?_
 refine fin2r (v := .int _ _) (v2 := .int _ _) rfl rfl rfl ?_
 exact ⟨rfl, H.only⟩
theorem obPtrs (hE : Ents (devL g d) w) (hw : Ob.W64 d.cache) (hl : d.cache.length ≤ 1000000000) (a : Int) (hh : Ob.hd d.cache a = true) :
  Calls Try.prog 62 [ptr g.p, .int .i64 a].toArray w fun e w' => ∃ A c, e = .returned (.tuple [.slice A (Ob.ptrs d.cache a).length c, .int .i64 0].toArray) ∧ Heap w [] [ownN 1 (.slice A (Ob.ptrs d.cache a).length c) (Ob.ptrs d.cache a).length ((Ob.ptrs d.cache a).map (Value.int .i64)) 3] w' := by
 have HR := Heap.start hE
 have H := Heap.nil w
 have hy := Ob.hd_yes hh
 have hb := Ob.hp_bd hw a
 have hH := fun {W : World} (h : Only [] w W) => obHead (HR.same h).ents hw hl a (by omega)
 have he : Ob.he d.cache a = 0 := by unfold Ob.he; rw [if_pos hh]
 rw [he] at hH
 obtain ⟨n, hn⟩ : ∃ n : Nat, Ob.hp d.cache a = n := ⟨(Ob.hp d.cache a).toNat, by omega⟩
 have hP := fun (i : Nat) (hi : i < n) {W : World} (h : Only [] w W) => obPtr (HR.same h).ents hw hl a i hh ⟨by omega, by omega⟩
 have hpt : Ob.ptrs d.cache a = Ob.ptrsTo d.cache a n := by unfold Ob.ptrs; rw [hn, Int.toNat_natCast]
 rw [hpt, Ob.ptrsTo_len]
 rw [hn] at hH
 refine k_in (N := 39) Try.func62 rfl rfl rfl ?_
 refine k_sg ?_
 refine s_run rfl rfl (ras rfl) ?_
 refine s_run rfl rfl (rai rfl) ?_
 refine k_nc ?_
 refine k_sg ?_
 refine s_run rfl rfl (rmp rfl) ?_
 refine s_run rfl rfl (rmi rfl) ?_
 refine s_call rfl (hH H.only) (ca91 rfl) ?_
 rintro e W1 ⟨rfl, H'⟩
 refine ⟨_, rfl, ?_⟩
 have H := H.same H'; clear H'
 refine s_run rfl rfl (rmt rfl) ?_
 refine s_run rfl rfl (r_ext (v := .agg _) rfl rfl) ?_
 refine s_run rfl rfl (r_ext (v := .int _ _) rfl rfl) ?_
 refine s_al H rfl inf149 ?_
 intro p6 _ H'; clear H; have H := H'; clear H'
 refine s_sw H 0 rfl rfl rfl rfl rfl rfl rfl sz149 ?_
 clear H; intro _ H; simp only [jA, jB, jC, jD, jE, jF, jG, jH, jI, jJ, jK, Nat.reduceAdd] at H
 refine s_run rfl rfl (rai rfl) ?_
 refine k_nc ?_
 refine k_seq ?_
 refine k_sg ?_
 refine s_run rfl rfl (rmi rfl) ?_
 refine s_run rfl rfl (r_neqF rfl rfl (by omega)) ?_
 refine k_nc ?_
 refine k_f rfl ?_
 refine k_skip ?_
 refine c_norm ?_
 refine k_sg ?_
 refine s_run rfl rfl (ras rfl) ?_
 refine k_nc ?_
 refine k_seq ?_
 refine k_sg ?_
 refine s_run rfl rfl (r_fa0 rfl fo149_0) ?_
 refine s_run rfl rfl (r_lo H 0 rfl rfl rfl ag3) ?_
 refine s_run rfl rfl (rmi rfl) ?_
 refine k_nc ?_
 refine k_b ?_
 refine k_loop (fun z f W => ∃ (i : Nat) (OA : Option Addr) (oc : Nat), i ≤ n ∧ z = n - i ∧ f 0 = ptr g.p ∧ f 1 = .int .i64 a ∧ f 8 = .slice OA i oc ∧ f 22 = .int .i64 n ∧ f 23 = .int .i64 i ∧ Heap w [] [ownN 1 (.slice OA i oc) i ((Ob.ptrsTo d.cache a i).map (Value.int .i64)) 3] W) n ⟨0, none, 0, by omega, rfl, rfl, rfl, rfl, rfl, rfl, (Heap.clear H).own_nil 1 3⟩ ?_
 clear H
 rintro z f W ⟨i, OA, oc, hi, rfl, f0, f1, f8, f22, f23, H⟩
 obtain ⟨f, rfl⟩ := live5 f0 f1 f8 f22 f23
 clear f0 f1 f8 f22 f23
 by_cases hlt : i < n
 ·have hP := fun {W : World} (h : Only [] w W) => hP i hlt h
  refine k_sg ?_
  refine s_run rfl rfl (r_lssT rfl rfl (by omega)) ?_
  refine k_nc ?_
  refine k_seq ?_
  refine k_t rfl ?_
  refine k_skip ?_
  refine c_norm ?_
  refine k_seq ?_
  refine k_b ?_
  refine k_sg ?_
  refine s_run rfl rfl (rmi rfl) ?_
  refine s_run rfl rfl (rai rfl) ?_
  refine k_nc ?_
  refine k_sg ?_
  refine s_run rfl rfl (rmp rfl) ?_
  refine s_run rfl rfl (rmi rfl) ?_
  refine s_run rfl rfl (rmi rfl) ?_
  refine s_call rfl (hP H.only) (ca92 rfl) ?_
  rintro e W1 ⟨rfl, H'⟩
  refine ⟨_, rfl, ?_⟩
  have H := H.same H'; clear H'
  refine s_run rfl rfl (rmt rfl) ?_
  refine s_run rfl rfl (r_ext (v := .int _ _) rfl rfl) ?_
  refine s_run rfl rfl (r_ext (v := .int _ _) rfl rfl) ?_
  refine s_run rfl rfl (rai rfl) ?_
  refine s_run rfl rfl (rai rfl) ?_
  refine k_nc ?_
  refine k_rg ?_
  refine s_run rfl rfl (rms rfl) ?_
  refine s_run rfl rfl (rmi rfl) ?_
  refine s_app1 (enc := (Value.int .i64)) H 0 rfl rfl rfl rfl rfl rfl rfl (by omega) Try.underlying25 inf3 rfl ?_
  intro _ An cn _ H'; simp only [List.set_cons_zero, List.set_cons_succ, List.take_succ_cons, List.take_zero, List.drop_succ_cons, List.drop_zero, List.cons_append, List.nil_append, List.append_nil, List.length_cons, List.length_nil, Nat.reduceAdd] at H'; clear H; have H := H'; clear H'
  refine s_run rfl rfl (ras rfl) ?_
  refine k_nil ?_
  refine b_norm ?_
  refine c_norm ?_
  refine k_rg ?_
  refine s_run rfl rfl (r_add rfl rfl (wI (by omega))) ?_
  refine s_run rfl rfl (rmi rfl) ?_
  refine k_nil ?_
  refine c_round ?_
  rw [← Ob.ptrsTo_succ] at H
  exact ⟨_, _, by omega, rfl, i + 1, _, _, by omega, rfl, rfl, rfl, rfl, rfl, rfl, H⟩
 ·obtain rfl : i = n := by omega
  refine k_sg ?_
  refine s_run rfl rfl (r_lssF rfl rfl (by omega)) ?_
  refine k_nc ?_
  refine k_seq ?_
  refine k_f rfl ?_
  refine k_exit ?_
  refine c_exit ?_
  refine c_exit ?_
  refine b_hit ?_
  refine c_norm ?_
  refine k_sg ?_
  refine s_run rfl rfl (rms rfl) ?_
  refine s_run rfl rfl (ras rfl) ?_
  refine s_run rfl rfl (rai rfl) ?_
  refine k_nc ?_
  refine k_ret ?_
  refine fin2r (v := .slice _ _ _) (v2 := .int _ _) rfl rfl rfl ?_
  exact ⟨_, _, rfl, H⟩
end
end Go.Proofs.Ytlakbclnilakbaa
end

section
namespace Go.Proofs.Ytlakbclnilakbaa
open Go.RowKit
set_option maxRecDepth 100000
set_option maxHeartbeats 2000000
section
variable {P : Program} {n : Sz} {f : Nat → Value} {W w0 : World} {dst : Option Tmp} {ty : TypeId} {pos : String} {af : Array Edge} {g : Option (Nat × Bool)} {x y : Operand} {t t2 e1 e2 e3 : TypeId}
theorem run_s3q {k1 k2 k3 q1 q2 q3 : IntKind} {a b c a' b' c' : Int} (ht : P.underlying t = some (.struct (P.fieldsOf t))) (hp : P.stoodInHeld t = false)
  (hf : (P.fieldsOf t).toList.map (fun f => (f.name != "_", f.type, f.offset)) = [(true, e1, 0), (true, e2, 1), (true, e3, 2)]) (h1 : P.underlying e1 = some (.int q1)) (h2 : P.underlying e2 = some (.int q2)) (h3 : P.underlying e3 = some (.int q3)) (D : Nat) :
  (Op.equalIn (D + 2) t (.agg [.int k1 a, .int k2 b, .int k3 c].toArray) (.agg [.int k1 a', .int k2 b', .int k3 c'].toArray)).run P W = .ok (decide (a = a' ∧ b = b' ∧ c = c')) W := by
 rw [run_equalIn_struct W (D + 1) t _ _ ht hp]
 generalize (P.fieldsOf t).toList = fs at hf
 obtain ⟨f1, f2, f3, rfl⟩ : ∃ f1 f2 f3, fs = [f1, f2, f3] := by
  have := congrArg List.length hf
  simp only [List.length_map, List.length_cons, List.length_nil] at this
  rcases fs with _ | ⟨f1, _ | ⟨f2, _ | ⟨f3, _ | ⟨f4, fs⟩⟩⟩⟩
  ·simp at this
  ·simp at this
  ·simp at this
  ·exact ⟨f1, f2, f3, rfl⟩
  ·simp at this
 simp only [List.map_cons, List.map_nil, List.cons.injEq, Prod.mk.injEq, and_true, bne_iff_ne] at hf
 obtain ⟨⟨n1, rfl, o1⟩, ⟨n2, rfl, o2⟩, n3, rfl, o3⟩ := hf
 have p1 : ∀ (W : World) (u v z : Value), (part f1.type [u, v, z].toArray f1.offset).run P W = .ok u W := by
  intro W u v z; simp [part, isAgg, run_underlying h1, o1]
 have p2 : ∀ (W : World) (u v z : Value), (part f2.type [u, v, z].toArray f2.offset).run P W = .ok v W := by
  intro W u v z; simp [part, isAgg, run_underlying h2, o2]
 have p3 : ∀ (W : World) (u v z : Value), (part f3.type [u, v, z].toArray f3.offset).run P W = .ok z W := by
  intro W u v z; simp [part, isAgg, run_underlying h3, o3]
 simp only [Op.eqFields, n1, n2, n3, ne_eq, not_false_eq_true, if_true, Sem.run_bind, p1, p2, p3, Result.andThen_ok, run_equalIn_int W D f1.type k1 q1 _ _ h1]
 by_cases c1 : a = a'
 ·by_cases c2 : b = b'
  ·by_cases c3 : c = c'
   ·simp [c1, c2, c3, Op.eqFields, p2, p3, run_equalIn_int W D f2.type k2 q2 _ _ h2, run_equalIn_int W D f3.type k3 q3 _ _ h3]
   ·simp [c1, c2, c3, Op.eqFields, p2, p3, run_equalIn_int W D f2.type k2 q2 _ _ h2, run_equalIn_int W D f3.type k3 q3 _ _ h3]
  ·simp [c1, c2, Op.eqFields, p2, run_equalIn_int W D f2.type k2 q2 _ _ h2]
 ·simp [c1]
theorem r_s3q {k1 k2 k3 q1 q2 q3 : IntKind} {a b c a' b' c' : Int} (hx : ev n f x = .agg [.int k1 a, .int k2 b, .int k3 c].toArray) (hy : ev n f y = .agg [.int k1 a', .int k2 b', .int k3 c'].toArray) (ht : P.underlying t = some (.struct (P.fieldsOf t))) (hp : P.stoodInHeld t = false) (hg : P.eqGuardType P.depth t = false)
  (hf : (P.fieldsOf t).toList.map (fun f => (f.name != "_", f.type, f.offset)) = [(true, e1, 0), (true, e2, 1), (true, e3, 2)]) (h1 : P.underlying e1 = some (.int q1)) (h2 : P.underlying e2 = some (.int q2)) (h3 : P.underlying e3 = some (.int q3)) {q : Bool} (hq : decide (a = a' ∧ b = b' ∧ c = c') = q) :
  (execOp (ev n f) ⟨dst, .binOp .eql t x y t2, ty, pos, af, g⟩).run P W = .ok (.value (.bool q)) W := by
 subst hq
 have h := run_s3q (W := W) (k1 := k1) (k2 := k2) (k3 := k3) (a := a) (b := b) (c := c) (a' := a') (b' := b') (c' := c') ht hp hf h1 h2 h3 9998
 have h2 : (binOp .eql t (.agg [.int k1 a, .int k2 b, .int k3 c].toArray) (.agg [.int k1 a', .int k2 b', .int k3 c'].toArray)).run P W = .ok (.bool (decide (a = a' ∧ b = b' ∧ c = c'))) W := by
  rw [run_eql_struct, h]; rfl
 have h3 := run_eqGuard_agg W .eql t x y [Value.int k1 a, .int k2 b, .int k3 c].toArray [Value.int k1 a', .int k2 b', .int k3 c'].toArray hg
 simp only [execOp, hx, hy, Sem.run_bind, h3, h2, Result.andThen_ok]
 rfl
theorem r_s3n {k1 k2 k3 q1 q2 q3 : IntKind} {a b c a' b' c' : Int} (hx : ev n f x = .agg [.int k1 a, .int k2 b, .int k3 c].toArray) (hy : ev n f y = .agg [.int k1 a', .int k2 b', .int k3 c'].toArray) (ht : P.underlying t = some (.struct (P.fieldsOf t))) (hp : P.stoodInHeld t = false) (hg : P.eqGuardType P.depth t = false)
  (hf : (P.fieldsOf t).toList.map (fun f => (f.name != "_", f.type, f.offset)) = [(true, e1, 0), (true, e2, 1), (true, e3, 2)]) (h1 : P.underlying e1 = some (.int q1)) (h2 : P.underlying e2 = some (.int q2)) (h3 : P.underlying e3 = some (.int q3)) {q : Bool} (hq : decide (a = a' ∧ b = b' ∧ c = c') = !q) :
  (execOp (ev n f) ⟨dst, .binOp .neq t x y t2, ty, pos, af, g⟩).run P W = .ok (.value (.bool q)) W := by
 have h := run_s3q (W := W) (k1 := k1) (k2 := k2) (k3 := k3) (a := a) (b := b) (c := c) (a' := a') (b' := b') (c' := c') ht hp hf h1 h2 h3 9998
 have h2 : (binOp .neq t (.agg [.int k1 a, .int k2 b, .int k3 c].toArray) (.agg [.int k1 a', .int k2 b', .int k3 c'].toArray)).run P W = .ok (.bool q) W := by
  rw [run_neq_struct, h, hq]; simp [Result.andThen]
 have h3 := run_eqGuard_agg W .neq t x y [Value.int k1 a, .int k2 b, .int k3 c].toArray [Value.int k1 a', .int k2 b', .int k3 c'].toArray hg
 simp only [execOp, hx, hy, Sem.run_bind, h3, h2, Result.andThen_ok]
 rfl
end
end Go.Proofs.Ytlakbclnilakbaa
end

section
namespace Go.Proofs.Ytlakbclnilakbaa
open Go.RowKit
set_option maxRecDepth 100000
set_option maxHeartbeats 4000000
/-- headers are read where they lie -/
def HSees (w : World) (F : List Nat) (A : Option Addr) (hs : List Ob.H3) : Prop := hs.length ≠ 0 → ∃ b o, A = some ⟨b, o, none⟩ ∧ b ∉ F ∧ ∀ i h, hs[i]? = some h → Reads (fun v : Value => v) w b (o + i * 3) [.int .i64 h.1, .int .i64 h.2.1, .int .i64 h.2.2]
theorem HSees.later {w W : World} {F G : List Nat} {A : Option Addr} {hs : List Ob.H3} (h : HSees w F A hs) (hO : Only G w W) (hG : ∀ i ∈ G, i ∈ F) : HSees W F A hs := fun h0 => by
 obtain ⟨b, o, e, hb, hr⟩ := h h0
 exact ⟨b, o, e, hb, fun i x hi => (hr i x hi).later hO (fun hm => hb (hG b hm))⟩
theorem HSees.mono {w : World} {F G : List Nat} {A : Option Addr} {hs : List Ob.H3} (h : HSees w F A hs) (hG : ∀ i ∈ G, i ∈ F) : HSees w G A hs := fun h0 => by
 obtain ⟨b, o, e, hb, hr⟩ := h h0
 exact ⟨b, o, e, fun hm => hb (hG b hm), hr⟩
def hsW (hs : List Ob.H3) : Prop := ∀ h ∈ hs, (-9223372036854775808 ≤ h.2.2 ∧ h.2.2 ≤ 9223372036854775807)
theorem bWhole (A : Option Addr) (n c : Nat) (hs : List Ob.H3) (b : Nat) (w : World) (hS : HSees w [] A hs) (hl : hs.length = n) (hn : n ≤ 1000000) (hb : b ≤ 1000000) (hW : hsW hs) :
  Calls Try.prog 115 [.slice A n c, .int .i64 b].toArray w fun e w' => e = .returned (.tuple [.int .i64 (Ob.wlen hs b), .bool (Ob.whole hs b)].toArray) ∧ Only [] w w' := by
 have H := Heap.nil w
 by_cases hlt : b < n
 ·obtain ⟨h, hh⟩ : ∃ h, hs[b]? = some h := ⟨_, List.getElem?_eq_getElem (by omega)⟩
  have hwb := hW h (List.mem_of_getElem? hh)
  obtain ⟨q, o, rfl, _, hrd⟩ := hS (by omega)
  have hre := hrd b h hh
  have c0 := hre 0 _ rfl
  have c2 := hre 2 _ rfl
  by_cases hk : h.1 = 2
  ·by_cases hr : 1 ≤ h.2.2 ∧ h.2.2 ≤ (n : Int) - b
   ·obtain ⟨m, hm⟩ : ∃ m : Nat, h.2.2 = m := ⟨h.2.2.toNat, by omega⟩
    have hwh : Ob.whole hs b = Ob.wholeTo hs b m := by
     unfold Ob.whole; rw [hh]; simp only [hl]; rw [decide_eq_true hk, decide_eq_true hr, hm, Int.toNat_natCast]; rfl
    have hwl : Ob.wlen hs b = if Ob.wholeTo hs b m = true then (m : Int) else 0 := by
     unfold Ob.wlen; rw [hwh, hh]; simp only [hm]
    rw [hwl, hwh]
    rw [hm] at c2
    refine k_in (N := 54) Try.func115 rfl rfl rfl ?_
    refine k_sg ?_
    refine s_run rfl rfl (rai rfl) ?_
    refine s_run rfl rfl (rab rfl) ?_
    refine k_nc ?_
    refine k_seq ?_
    refine k_sg ?_
    refine s_run rfl rfl (rmi rfl) ?_
    refine s_run rfl rfl (r_lssF rfl rfl (by omega)) ?_
    refine s_run rfl rfl (rmb rfl) ?_
    refine s_run rfl (g_on 10 (by kernel_rfl) rfl) (rmi rfl) ?_
    refine s_run rfl (g_on 10 (by kernel_rfl) rfl) (rms rfl) ?_
    refine s_run rfl (g_on 10 (by kernel_rfl) rfl) (r_len rfl Try.underlying49) ?_
    refine s_run rfl (g_on 10 (by kernel_rfl) rfl) (r_geqF rfl rfl (by omega)) ?_
    refine s_run rfl rfl (r_pkF (v := .bool _) rfl rfl) ?_
    refine s_run rfl rfl (rmb rfl) ?_
    refine s_run rfl (g_on 16 (by kernel_rfl) rfl) (rms rfl) ?_
    refine s_run rfl (g_on 16 (by kernel_rfl) rfl) (rmi rfl) ?_
    refine s_run rfl (g_on 16 (by kernel_rfl) rfl) (r_ix (i := b) rfl rfl (by omega) (by omega) Try.underlying49 sz102) ?_
    refine s_run rfl (g_on 16 (by kernel_rfl) rfl) (r_fa rfl fo102_0) ?_
    refine s_run rfl (g_on 16 (by kernel_rfl) rfl) (r_lr H rfl c0 (by simp) ag3) ?_
    refine s_run rfl (g_on 16 (by kernel_rfl) rfl) (r_neqF rfl rfl (by omega)) ?_
    refine s_run rfl rfl (r_pkF (v := .bool _) rfl rfl) ?_
    refine k_nc ?_
    refine k_f rfl ?_
    refine k_skip ?_
    refine c_norm ?_
    refine k_sg ?_
    refine s_run rfl rfl (rms rfl) ?_
    refine s_run rfl rfl (rmi rfl) ?_
    refine s_run rfl rfl (r_ix (i := b) rfl rfl (by omega) (by omega) Try.underlying49 sz102) ?_
    refine s_run rfl rfl (r_fa rfl fo102_2) ?_
    refine s_run rfl rfl (r_lr H rfl c2 (by simp) ag3) ?_
    refine s_run rfl rfl (rai rfl) ?_
    refine k_nc ?_
    refine k_seq ?_
    refine k_sg ?_
    refine s_run rfl rfl (rmi rfl) ?_
    refine s_run rfl rfl (r_lssF rfl rfl (by omega)) ?_
    refine s_run rfl rfl (rmb rfl) ?_
    refine s_run rfl (g_on 31 (by kernel_rfl) rfl) (rmi rfl) ?_
    refine s_run rfl (g_on 31 (by kernel_rfl) rfl) (rms rfl) ?_
    refine s_run rfl (g_on 31 (by kernel_rfl) rfl) (r_len rfl Try.underlying49) ?_
    refine s_run rfl (g_on 31 (by kernel_rfl) rfl) (rmi rfl) ?_
    refine s_run rfl (g_on 31 (by kernel_rfl) rfl) (r_sub rfl rfl (wI (by omega))) ?_
    refine s_run rfl (g_on 31 (by kernel_rfl) rfl) (r_gtrF rfl rfl (by omega)) ?_
    refine s_run rfl rfl (r_pkF (v := .bool _) rfl rfl) ?_
    refine k_nc ?_
    refine k_f rfl ?_
    refine k_skip ?_
    refine c_norm ?_
    refine k_seq ?_
    refine k_sg ?_
    refine s_run rfl rfl (rai rfl) ?_
    refine k_nc ?_
    refine k_b ?_
    refine k_loop (fun z f W => ∃ (i : Nat), 1 ≤ i ∧ i ≤ m ∧ z = m - i ∧ Ob.wholeTo hs b i = true ∧ f 0 = .slice (some ⟨q, o, none⟩) n c ∧ f 1 = .int .i64 b ∧ f 6 = .int .i64 m ∧ f 7 = .int .i64 i ∧ Heap w [] [] W) (m - 1) ⟨1, by omega, by omega, rfl, rfl, rfl, rfl, rfl, rfl, H⟩ ?_
    clear H
    rintro z f W ⟨i, hi1, hi, rfl, hwt, f0, f1, f6, f7, H⟩
    obtain ⟨f, rfl⟩ := live4 f0 f1 f6 f7
    clear f0 f1 f6 f7
    by_cases hit : i < m
    ·obtain ⟨y, hy⟩ : ∃ y, hs[b + i]? = some y := ⟨_, List.getElem?_eq_getElem (by omega)⟩
     have hry := hrd (b + i) y hy
     obtain ⟨y1, y2, y3⟩ := y
     have hsu := Ob.wholeTo_succ hs b i
     rw [hwt, Bool.true_and, decide_eq_false (by omega : ¬ i = 0), Bool.false_or, hy] at hsu
     by_cases e : y1 = 3 ∧ y2 = 0 ∧ y3 = i
     ·obtain ⟨rfl, rfl, rfl⟩ := e
      rw [decide_eq_true rfl] at hsu
      refine k_seq ?_
      refine k_sg ?_
      refine s_run rfl rfl (rmi rfl) ?_
      refine s_run rfl rfl (rmi rfl) ?_
      refine s_run rfl rfl (r_lssT rfl rfl (by omega)) ?_
      refine k_nc ?_
      refine k_t rfl ?_
      refine k_skip ?_
      refine c_norm ?_
      refine k_seq ?_
      refine k_b ?_
      refine k_sg ?_
      refine s_run rfl rfl (rms rfl) ?_
      refine s_run rfl rfl (rmi rfl) ?_
      refine s_run rfl rfl (rmi rfl) ?_
      refine s_run rfl rfl (r_add rfl rfl (wI (by omega))) ?_
      refine s_run rfl rfl (r_ix (i := (b + i)) rfl rfl (by omega) (by omega) Try.underlying49 sz102) ?_
      refine s_run rfl rfl (r_lA (enc := fun v : Value => v) (zs := [.int .i64 3, .int .i64 0, .int .i64 i]) (hry.later H.only (by simp)) rfl rfl ag102 sz102) ?_
      refine s_run rfl rfl (rmi rfl) ?_
      refine s_run rfl rfl (r_bd (bd102_0_2 _ _) rfl) ?_
      refine s_run rfl rfl (r_s3n (q := false) rfl rfl (by kernel_rfl) (by kernel_rfl) (by kernel_rfl) (by kernel_rfl) Try.underlying3 Try.underlying3 Try.underlying3 (by simp)) ?_
      refine k_nc ?_
      refine k_f rfl ?_
      refine k_skip ?_
      refine b_norm ?_
      refine c_norm ?_
      refine k_rg ?_
      refine s_run rfl rfl (rmi rfl) ?_
      refine s_run rfl rfl (r_add rfl rfl (wI (by omega))) ?_
      refine s_run rfl rfl (rai rfl) ?_
      refine k_nil ?_
      refine c_round ?_
      exact ⟨_, _, by omega, rfl, i + 1, by omega, by omega, rfl, hsu, rfl, rfl, rfl, rfl, H⟩
     ·have hne : ¬ Ob.wholeTo hs b m = true := fun hm2 => by
       have h1 := Ob.wholeTo_mono hm2 (show i + 1 ≤ m by omega)
       rw [hsu] at h1
       have h2 := of_decide_eq_true h1
       injection h2 with h2
       injection h2 with h2 h3
       injection h3 with h3 h4
       exact e ⟨h2, h3, h4⟩
      have hfa : Ob.wholeTo hs b m = false := by simpa using hne
      rw [if_neg hne, hfa]
      refine k_seq ?_
      refine k_sg ?_
      refine s_run rfl rfl (rmi rfl) ?_
      refine s_run rfl rfl (rmi rfl) ?_
      refine s_run rfl rfl (r_lssT rfl rfl (by omega)) ?_
      refine k_nc ?_
      refine k_t rfl ?_
      refine k_skip ?_
      refine c_norm ?_
      refine k_seq ?_
      refine k_b ?_
      refine k_sg ?_
      refine s_run rfl rfl (rms rfl) ?_
      refine s_run rfl rfl (rmi rfl) ?_
      refine s_run rfl rfl (rmi rfl) ?_
      refine s_run rfl rfl (r_add rfl rfl (wI (by omega))) ?_
      refine s_run rfl rfl (r_ix (i := (b + i)) rfl rfl (by omega) (by omega) Try.underlying49 sz102) ?_
      refine s_run rfl rfl (r_lA (enc := fun v : Value => v) (zs := [.int .i64 y1, .int .i64 y2, .int .i64 y3]) (hry.later H.only (by simp)) rfl rfl ag102 sz102) ?_
      refine s_run rfl rfl (rmi rfl) ?_
      refine s_run rfl rfl (r_bd (bd102_0_2 _ _) rfl) ?_
      refine s_run rfl rfl (r_s3n (q := true) rfl rfl (by kernel_rfl) (by kernel_rfl) (by kernel_rfl) (by kernel_rfl) Try.underlying3 Try.underlying3 Try.underlying3 (by simpa using e)) ?_
      refine k_nc ?_
      refine k_t rfl ?_
      refine k_sg ?_
      refine s_run rfl rfl (rai rfl) ?_
      refine s_run rfl rfl (rab rfl) ?_
      refine k_nc ?_
      refine k_ret ?_
      refine b_ret ?_
      refine c_ret ?_
      refine c_ret ?_
      refine b_ret ?_
      refine c_ret ?_
      refine fin2r (v := .int _ _) (v2 := .bool _) rfl rfl rfl ?_
      exact ⟨rfl, H.only⟩
    ·obtain rfl : i = m := by omega
     rw [if_pos hwt, hwt]
     refine k_seq ?_
     refine k_sg ?_
     refine s_run rfl rfl (rmi rfl) ?_
     refine s_run rfl rfl (rmi rfl) ?_
     refine s_run rfl rfl (r_lssF rfl rfl (by omega)) ?_
     refine k_nc ?_
     refine k_f rfl ?_
     refine k_exit ?_
     refine c_exit ?_
     refine c_exit ?_
     refine b_hit ?_
     refine c_norm ?_
     refine k_sg ?_
     refine s_run rfl rfl (rmi rfl) ?_
     refine s_run rfl rfl (rai rfl) ?_
     refine s_run rfl rfl (rab rfl) ?_
     refine k_nc ?_
     refine k_ret ?_
     refine fin2r (v := .int _ _) (v2 := .bool _) rfl rfl rfl ?_
     exact ⟨rfl, H.only⟩
   ·have hwh : Ob.whole hs b = false := by
     unfold Ob.whole; rw [hh]; simp only [hl]; rw [decide_eq_false hr]; simp
    have hwl : Ob.wlen hs b = 0 := by unfold Ob.wlen; rw [hwh]; rfl
    rw [hwl, hwh]
    by_cases h1 : h.2.2 < 1
    ·refine k_in (N := 54) Try.func115 rfl rfl rfl ?_
     refine k_sg ?_
     refine s_run rfl rfl (rai rfl) ?_
     refine s_run rfl rfl (rab rfl) ?_
     refine k_nc ?_
     refine k_seq ?_
     refine k_sg ?_
     refine s_run rfl rfl (rmi rfl) ?_
     refine s_run rfl rfl (r_lssF rfl rfl (by omega)) ?_
     refine s_run rfl rfl (rmb rfl) ?_
     refine s_run rfl (g_on 10 (by kernel_rfl) rfl) (rmi rfl) ?_
     refine s_run rfl (g_on 10 (by kernel_rfl) rfl) (rms rfl) ?_
     refine s_run rfl (g_on 10 (by kernel_rfl) rfl) (r_len rfl Try.underlying49) ?_
     refine s_run rfl (g_on 10 (by kernel_rfl) rfl) (r_geqF rfl rfl (by omega)) ?_
     refine s_run rfl rfl (r_pkF (v := .bool _) rfl rfl) ?_
     refine s_run rfl rfl (rmb rfl) ?_
     refine s_run rfl (g_on 16 (by kernel_rfl) rfl) (rms rfl) ?_
     refine s_run rfl (g_on 16 (by kernel_rfl) rfl) (rmi rfl) ?_
     refine s_run rfl (g_on 16 (by kernel_rfl) rfl) (r_ix (i := b) rfl rfl (by omega) (by omega) Try.underlying49 sz102) ?_
     refine s_run rfl (g_on 16 (by kernel_rfl) rfl) (r_fa rfl fo102_0) ?_
     refine s_run rfl (g_on 16 (by kernel_rfl) rfl) (r_lr H rfl c0 (by simp) ag3) ?_
     refine s_run rfl (g_on 16 (by kernel_rfl) rfl) (r_neqF rfl rfl (by omega)) ?_
     refine s_run rfl rfl (r_pkF (v := .bool _) rfl rfl) ?_
     refine k_nc ?_
     refine k_f rfl ?_
     refine k_skip ?_
     refine c_norm ?_
     refine k_sg ?_
     refine s_run rfl rfl (rms rfl) ?_
     refine s_run rfl rfl (rmi rfl) ?_
     refine s_run rfl rfl (r_ix (i := b) rfl rfl (by omega) (by omega) Try.underlying49 sz102) ?_
     refine s_run rfl rfl (r_fa rfl fo102_2) ?_
     refine s_run rfl rfl (r_lr H rfl c2 (by simp) ag3) ?_
     refine s_run rfl rfl (rai rfl) ?_
     refine k_nc ?_
     refine k_seq ?_
     refine k_sg ?_
     refine s_run rfl rfl (rmi rfl) ?_
     refine s_run rfl rfl (r_lssT rfl rfl (by omega)) ?_
     refine s_run rfl rfl (rmb rfl) ?_
     refine s_off rfl (g_off 31 (by kernel_rfl) rfl rfl) ?_
     refine s_off rfl (g_off 31 (by kernel_rfl) rfl rfl) ?_
     refine s_off rfl (g_off 31 (by kernel_rfl) rfl rfl) ?_
     refine s_off rfl (g_off 31 (by kernel_rfl) rfl rfl) ?_
     refine s_off rfl (g_off 31 (by kernel_rfl) rfl rfl) ?_
     refine s_off rfl (g_off 31 (by kernel_rfl) rfl rfl) ?_
     refine s_run rfl rfl (r_pkT (v := .bool _) rfl rfl) ?_
     refine k_nc ?_
     refine k_t rfl ?_
     refine k_sg ?_
     refine s_run rfl rfl (rai rfl) ?_
     refine s_run rfl rfl (rab rfl) ?_
     refine k_nc ?_
     refine k_ret ?_
     refine c_ret ?_
     refine fin2r (v := .int _ _) (v2 := .bool _) rfl rfl rfl ?_
     exact ⟨rfl, H.only⟩
    ·refine k_in (N := 54) Try.func115 rfl rfl rfl ?_
     refine k_sg ?_
     refine s_run rfl rfl (rai rfl) ?_
     refine s_run rfl rfl (rab rfl) ?_
     refine k_nc ?_
     refine k_seq ?_
     refine k_sg ?_
     refine s_run rfl rfl (rmi rfl) ?_
     refine s_run rfl rfl (r_lssF rfl rfl (by omega)) ?_
     refine s_run rfl rfl (rmb rfl) ?_
     refine s_run rfl (g_on 10 (by kernel_rfl) rfl) (rmi rfl) ?_
     refine s_run rfl (g_on 10 (by kernel_rfl) rfl) (rms rfl) ?_
     refine s_run rfl (g_on 10 (by kernel_rfl) rfl) (r_len rfl Try.underlying49) ?_
     refine s_run rfl (g_on 10 (by kernel_rfl) rfl) (r_geqF rfl rfl (by omega)) ?_
     refine s_run rfl rfl (r_pkF (v := .bool _) rfl rfl) ?_
     refine s_run rfl rfl (rmb rfl) ?_
     refine s_run rfl (g_on 16 (by kernel_rfl) rfl) (rms rfl) ?_
     refine s_run rfl (g_on 16 (by kernel_rfl) rfl) (rmi rfl) ?_
     refine s_run rfl (g_on 16 (by kernel_rfl) rfl) (r_ix (i := b) rfl rfl (by omega) (by omega) Try.underlying49 sz102) ?_
     refine s_run rfl (g_on 16 (by kernel_rfl) rfl) (r_fa rfl fo102_0) ?_
     refine s_run rfl (g_on 16 (by kernel_rfl) rfl) (r_lr H rfl c0 (by simp) ag3) ?_
     refine s_run rfl (g_on 16 (by kernel_rfl) rfl) (r_neqF rfl rfl (by omega)) ?_
     refine s_run rfl rfl (r_pkF (v := .bool _) rfl rfl) ?_
     refine k_nc ?_
     refine k_f rfl ?_
     refine k_skip ?_
     refine c_norm ?_
     refine k_sg ?_
     refine s_run rfl rfl (rms rfl) ?_
     refine s_run rfl rfl (rmi rfl) ?_
     refine s_run rfl rfl (r_ix (i := b) rfl rfl (by omega) (by omega) Try.underlying49 sz102) ?_
     refine s_run rfl rfl (r_fa rfl fo102_2) ?_
     refine s_run rfl rfl (r_lr H rfl c2 (by simp) ag3) ?_
     refine s_run rfl rfl (rai rfl) ?_
     refine k_nc ?_
     refine k_seq ?_
     refine k_sg ?_
     refine s_run rfl rfl (rmi rfl) ?_
     refine s_run rfl rfl (r_lssF rfl rfl (by omega)) ?_
     refine s_run rfl rfl (rmb rfl) ?_
     refine s_run rfl (g_on 31 (by kernel_rfl) rfl) (rmi rfl) ?_
     refine s_run rfl (g_on 31 (by kernel_rfl) rfl) (rms rfl) ?_
     refine s_run rfl (g_on 31 (by kernel_rfl) rfl) (r_len rfl Try.underlying49) ?_
     refine s_run rfl (g_on 31 (by kernel_rfl) rfl) (rmi rfl) ?_
     refine s_run rfl (g_on 31 (by kernel_rfl) rfl) (r_sub rfl rfl (wI (by omega))) ?_
     refine s_run rfl (g_on 31 (by kernel_rfl) rfl) (r_gtrT rfl rfl (by omega)) ?_
     refine s_run rfl rfl (r_pkF (v := .bool _) rfl rfl) ?_
     refine k_nc ?_
     refine k_t rfl ?_
     refine k_sg ?_
     refine s_run rfl rfl (rai rfl) ?_
     refine s_run rfl rfl (rab rfl) ?_
     refine k_nc ?_
     refine k_ret ?_
     refine c_ret ?_
     refine fin2r (v := .int _ _) (v2 := .bool _) rfl rfl rfl ?_
     exact ⟨rfl, H.only⟩
  ·have hwh : Ob.whole hs b = false := by
    unfold Ob.whole; rw [hh]; simp only [hl]; rw [decide_eq_false hk]; rfl
   have hwl : Ob.wlen hs b = 0 := by unfold Ob.wlen; rw [hwh]; rfl
   rw [hwl, hwh]
   refine k_in (N := 54) Try.func115 rfl rfl rfl ?_
   refine k_sg ?_
   refine s_run rfl rfl (rai rfl) ?_
   refine s_run rfl rfl (rab rfl) ?_
   refine k_nc ?_
   refine k_seq ?_
   refine k_sg ?_
   refine s_run rfl rfl (rmi rfl) ?_
   refine s_run rfl rfl (r_lssF rfl rfl (by omega)) ?_
   refine s_run rfl rfl (rmb rfl) ?_
   refine s_run rfl (g_on 10 (by kernel_rfl) rfl) (rmi rfl) ?_
   refine s_run rfl (g_on 10 (by kernel_rfl) rfl) (rms rfl) ?_
   refine s_run rfl (g_on 10 (by kernel_rfl) rfl) (r_len rfl Try.underlying49) ?_
   refine s_run rfl (g_on 10 (by kernel_rfl) rfl) (r_geqF rfl rfl (by omega)) ?_
   refine s_run rfl rfl (r_pkF (v := .bool _) rfl rfl) ?_
   refine s_run rfl rfl (rmb rfl) ?_
   refine s_run rfl (g_on 16 (by kernel_rfl) rfl) (rms rfl) ?_
   refine s_run rfl (g_on 16 (by kernel_rfl) rfl) (rmi rfl) ?_
   refine s_run rfl (g_on 16 (by kernel_rfl) rfl) (r_ix (i := b) rfl rfl (by omega) (by omega) Try.underlying49 sz102) ?_
   refine s_run rfl (g_on 16 (by kernel_rfl) rfl) (r_fa rfl fo102_0) ?_
   refine s_run rfl (g_on 16 (by kernel_rfl) rfl) (r_lr H rfl c0 (by simp) ag3) ?_
   refine s_run rfl (g_on 16 (by kernel_rfl) rfl) (r_neqT rfl rfl (by omega)) ?_
   refine s_run rfl rfl (r_pkF (v := .bool _) rfl rfl) ?_
   refine k_nc ?_
   refine k_t rfl ?_
   refine k_sg ?_
   refine s_run rfl rfl (rai rfl) ?_
   refine s_run rfl rfl (rab rfl) ?_
   refine k_nc ?_
   refine k_ret ?_
   refine c_ret ?_
   refine fin2r (v := .int _ _) (v2 := .bool _) rfl rfl rfl ?_
   exact ⟨rfl, H.only⟩
 ·have hno : hs[b]? = none := List.getElem?_eq_none (by omega)
  have hwh : Ob.whole hs b = false := by unfold Ob.whole; rw [hno]
  have hwl : Ob.wlen hs b = 0 := by unfold Ob.wlen; rw [hwh]; rfl
  rw [hwl, hwh]
  refine k_in (N := 54) Try.func115 rfl rfl rfl ?_
  refine k_sg ?_
  refine s_run rfl rfl (rai rfl) ?_
  refine s_run rfl rfl (rab rfl) ?_
  refine k_nc ?_
  refine k_seq ?_
  refine k_sg ?_
  refine s_run rfl rfl (rmi rfl) ?_
  refine s_run rfl rfl (r_lssF rfl rfl (by omega)) ?_
  refine s_run rfl rfl (rmb rfl) ?_
  refine s_run rfl (g_on 10 (by kernel_rfl) rfl) (rmi rfl) ?_
  refine s_run rfl (g_on 10 (by kernel_rfl) rfl) (rms rfl) ?_
  refine s_run rfl (g_on 10 (by kernel_rfl) rfl) (r_len rfl Try.underlying49) ?_
  refine s_run rfl (g_on 10 (by kernel_rfl) rfl) (r_geqT rfl rfl (by omega)) ?_
  refine s_run rfl rfl (r_pkF (v := .bool _) rfl rfl) ?_
  refine s_run rfl rfl (rmb rfl) ?_
  refine s_off rfl (g_off 16 (by kernel_rfl) rfl rfl) ?_
  refine s_off rfl (g_off 16 (by kernel_rfl) rfl rfl) ?_
  refine s_off rfl (g_off 16 (by kernel_rfl) rfl rfl) ?_
  refine s_off rfl (g_off 16 (by kernel_rfl) rfl rfl) ?_
  refine s_off rfl (g_off 16 (by kernel_rfl) rfl rfl) ?_
  refine s_off rfl (g_off 16 (by kernel_rfl) rfl rfl) ?_
  refine s_run rfl rfl (r_pkT (v := .bool _) rfl rfl) ?_
  refine k_nc ?_
  refine k_t rfl ?_
  refine k_sg ?_
  refine s_run rfl rfl (rai rfl) ?_
  refine s_run rfl rfl (rab rfl) ?_
  refine k_nc ?_
  refine k_ret ?_
  refine c_ret ?_
  refine fin2r (v := .int _ _) (v2 := .bool _) rfl rfl rfl ?_
  exact ⟨rfl, H.only⟩
theorem obPlaced {g : Geo} {d : Nv.D} {w : World} (hE : Ents (devL g d) w) (hw : Ob.W64 d.cache) (hl : d.cache.length ≤ 1000000000) (A : Option Addr) (k c : Nat) (hs : List Ob.H3) (hS : HSees w [] A hs) (hk : hs.length = k) (hk2 : k ≤ 1000000) (hW : hsW hs) (n : Nat) (hn : n ≤ 1000000) (a : Int) (ha : -9223372036854775808 ≤ a ∧ a ≤ 9223372036854775807) :
  Calls Try.prog 90 [ptr g.p, .agg [.int .i64 n].toArray, .slice A k c, .int .i64 a].toArray w fun e w' => (∃ P D : Int, e = .returned (.tuple [.agg [.int .i64 P, .int .i64 D].toArray, .bool (Ob.pl n d.cache hs a)].toArray) ∧ (Ob.pl n d.cache hs a = true → P = Ob.hp d.cache a ∧ D = Ob.hq d.cache a)) ∧ Only [] w w' := by
 have HR := Heap.start hE
 have H := Heap.nil w
 have hB := fun (W : World) => gBlockOf' n a W (by omega) ha
 by_cases hin : 512 ≤ a ∧ a < 512 * (n : Int)
 ·obtain ⟨b, hb⟩ : ∃ b : Nat, a / 512 = b := ⟨(a / 512).toNat, by omega⟩
  have hbo : blockOf n a = b := by unfold blockOf; rw [if_pos (by omega)]; exact hb
  rw [hbo] at hB
  by_cases hbk : b < k
  ·obtain ⟨h, hh⟩ : ∃ h, hs[b]? = some h := ⟨_, List.getElem?_eq_getElem (by omega)⟩
   have hHd := fun {W : World} (h : Only [] w W) => obHead (HR.same h).ents hw hl a ha
   cases hd : Ob.hd d.cache a with
   | false =>
    have hp : Ob.pl n d.cache hs a = false := by unfold Ob.pl; rw [hd]; simp
    have he : Ob.he d.cache a = 22 := by unfold Ob.he; rw [hd]; rfl
    rw [hp]
    rw [he] at hHd
    refine k_in (N := 87) Try.func90 rfl rfl rfl ?_
    refine k_sg ?_
    refine s_box H rfl rfl ?_
    intro p5 _ H'; clear H; have H := H'; clear H'
    refine s_al H rfl inf149 ?_
    intro p8 _ H'; clear H; have H := H'; clear H'
    refine s_run rfl rfl (rab rfl) ?_
    refine k_nc ?_
    refine k_sg ?_
    refine s_run rfl rfl (r_la H 1 rfl rfl rfl ag48 sz48) ?_
    refine s_run rfl rfl (rmi rfl) ?_
    refine s_call rfl (hB _) (ca112 rfl) ?_
    rintro e W1 ⟨rfl, H'⟩
    refine ⟨_, rfl, ?_⟩
    have H := H.same H'; clear H'
    refine s_run rfl rfl (rai rfl) ?_
    refine k_nc ?_
    refine k_seq ?_
    refine k_sg ?_
    refine s_run rfl rfl (rmi rfl) ?_
    refine s_run rfl rfl (r_lssF rfl rfl (by omega)) ?_
    refine s_run rfl rfl (rmb rfl) ?_
    refine s_run rfl (g_on 25 (by kernel_rfl) rfl) (rmi rfl) ?_
    refine s_run rfl (g_on 25 (by kernel_rfl) rfl) (rms rfl) ?_
    refine s_run rfl (g_on 25 (by kernel_rfl) rfl) (r_len rfl Try.underlying49) ?_
    refine s_run rfl (g_on 25 (by kernel_rfl) rfl) (r_geqF rfl rfl (by omega)) ?_
    refine s_run rfl rfl (r_pkF (v := .bool _) rfl rfl) ?_
    refine k_nc ?_
    refine k_f rfl ?_
    refine k_skip ?_
    refine c_norm ?_
    refine k_sg ?_
    refine s_run rfl rfl (rmp rfl) ?_
    refine s_run rfl rfl (rmi rfl) ?_
    refine s_call rfl (hHd H.only) (ca91 rfl) ?_
    rintro e W1 ⟨rfl, H'⟩
    refine ⟨_, rfl, ?_⟩
    have H := H.same H'; clear H'
    refine s_run rfl rfl (rmt rfl) ?_
    refine s_run rfl rfl (r_ext (v := .agg _) rfl rfl) ?_
    refine s_run rfl rfl (r_ext (v := .int _ _) rfl rfl) ?_
    refine s_al H rfl inf149 ?_
    intro p11 _ H'; clear H; have H := H'; clear H'
    refine s_sw H 0 rfl rfl rfl rfl rfl rfl rfl sz149 ?_
    clear H; intro _ H; simp only [jA, jB, jC, jD, jE, jF, jG, jH, jI, jJ, jK, Nat.reduceAdd] at H
    refine s_run rfl rfl (rai rfl) ?_
    refine k_nc ?_
    refine k_seq ?_
    refine k_sg ?_
    refine s_run rfl rfl (rmi rfl) ?_
    refine s_run rfl rfl (r_neqT rfl rfl (by omega)) ?_
    refine k_nc ?_
    refine k_t rfl ?_
    refine k_sg ?_
    refine s_run rfl rfl (r_bd (bd149 ) rfl) ?_
    refine s_sw H 1 rfl rfl rfl rfl rfl rfl rfl sz149 ?_
    clear H; intro _ H; simp only [jA, jB, jC, jD, jE, jF, jG, jH, jI, jJ, jK, Nat.reduceAdd] at H
    refine s_run rfl rfl (rab rfl) ?_
    refine k_nc ?_
    refine k_ret ?_
    refine c_ret ?_
    refine fx2r rfl (rv_a H 1 rfl rfl rfl ag149 sz149) (rv_t (v := .bool _) rfl) ?_
    exact ⟨⟨0, 0, rfl, fun h => by cases h⟩, H.only⟩
   | true =>
    have hpq := Ob.hp_bd hw a
    have he : Ob.he d.cache a = 0 := by unfold Ob.he; rw [hd]; rfl
    rw [he] at hHd
    have hp : Ob.pl n d.cache hs a = Ob.plAt n d.cache hs a h := by
     unfold Ob.pl; rw [hd, decide_eq_true hin, hb, Int.toNat_natCast, hh]; rfl
    rw [hp]
    obtain ⟨q, o, rfl, _, hrd⟩ := hS (by omega)
    have hre := hrd b h hh
    have hSm := fun (W : World) => oSmall' (Ob.hp d.cache a) (Ob.hq d.cache a) W (by omega) (by omega)
    have hsb := Cl.size_bd (Ob.hp d.cache a) (Ob.hq d.cache a)
    unfold Ob.plAt
    generalize hP : Ob.hp d.cache a = P at *
    generalize hQ : Ob.hq d.cache a = Q at *
    have hBl := fun (W : World) => oBlocks' P Q W (by omega) (by omega)
    have hFi := fun (W : World) => gFirst' n b W (by omega) (by omega)
    generalize Cl.size P Q = sz at *
    cases hob : Cl.ofB sz with
    | true =>
     have hkb := Cl.ofK_bd sz
     generalize Cl.ofK sz = kk at *
     have hAt := fun (W : World) => cAt' n kk a W (by omega) hin (by omega)
     rw [hob] at hSm
     rw [if_pos rfl]
     rw [hb] at hAt ⊢
     cases hat : (Ce.address n kk b (a % 512 / Cl.words kk) == a) with
     | true =>
      rw [hat] at hAt
      rw [Bool.true_and]
      obtain ⟨h1, h2, h3⟩ := h
      have hde : decide (h1 = 1 ∧ h2 = kk ∧ h3 = 0) = decide ((h1, h2, h3) = (1, kk, 0)) := by
       rw [decide_eq_decide]; simp
      refine k_in (N := 87) Try.func90 rfl rfl rfl ?_
      refine k_sg ?_
      refine s_box H rfl rfl ?_
      intro p5 _ H'; clear H; have H := H'; clear H'
      refine s_al H rfl inf149 ?_
      intro p8 _ H'; clear H; have H := H'; clear H'
      refine s_run rfl rfl (rab rfl) ?_
      refine k_nc ?_
      refine k_sg ?_
      refine s_run rfl rfl (r_la H 1 rfl rfl rfl ag48 sz48) ?_
      refine s_run rfl rfl (rmi rfl) ?_
      refine s_call rfl (hB _) (ca112 rfl) ?_
      rintro e W1 ⟨rfl, H'⟩
      refine ⟨_, rfl, ?_⟩
      have H := H.same H'; clear H'
      refine s_run rfl rfl (rai rfl) ?_
      refine k_nc ?_
      refine k_seq ?_
      refine k_sg ?_
      refine s_run rfl rfl (rmi rfl) ?_
      refine s_run rfl rfl (r_lssF rfl rfl (by omega)) ?_
      refine s_run rfl rfl (rmb rfl) ?_
      refine s_run rfl (g_on 25 (by kernel_rfl) rfl) (rmi rfl) ?_
      refine s_run rfl (g_on 25 (by kernel_rfl) rfl) (rms rfl) ?_
      refine s_run rfl (g_on 25 (by kernel_rfl) rfl) (r_len rfl Try.underlying49) ?_
      refine s_run rfl (g_on 25 (by kernel_rfl) rfl) (r_geqF rfl rfl (by omega)) ?_
      refine s_run rfl rfl (r_pkF (v := .bool _) rfl rfl) ?_
      refine k_nc ?_
      refine k_f rfl ?_
      refine k_skip ?_
      refine c_norm ?_
      refine k_sg ?_
      refine s_run rfl rfl (rmp rfl) ?_
      refine s_run rfl rfl (rmi rfl) ?_
      refine s_call rfl (hHd H.only) (ca91 rfl) ?_
      rintro e W1 ⟨rfl, H'⟩
      refine ⟨_, rfl, ?_⟩
      have H := H.same H'; clear H'
      refine s_run rfl rfl (rmt rfl) ?_
      refine s_run rfl rfl (r_ext (v := .agg _) rfl rfl) ?_
      refine s_run rfl rfl (r_ext (v := .int _ _) rfl rfl) ?_
      refine s_al H rfl inf149 ?_
      intro p11 _ H'; clear H; have H := H'; clear H'
      refine s_sw H 0 rfl rfl rfl rfl rfl rfl rfl sz149 ?_
      clear H; intro _ H; simp only [jA, jB, jC, jD, jE, jF, jG, jH, jI, jJ, jK, Nat.reduceAdd] at H
      refine s_run rfl rfl (rai rfl) ?_
      refine k_nc ?_
      refine k_seq ?_
      refine k_sg ?_
      refine s_run rfl rfl (rmi rfl) ?_
      refine s_run rfl rfl (r_neqF rfl rfl (by omega)) ?_
      refine k_nc ?_
      refine k_f rfl ?_
      refine k_skip ?_
      refine c_norm ?_
      refine k_sg ?_
      refine s_run rfl rfl (rms rfl) ?_
      refine s_run rfl rfl (rmi rfl) ?_
      refine s_run rfl rfl (r_ix (i := b) rfl rfl (by omega) (by omega) Try.underlying49 sz102) ?_
      refine s_run rfl rfl (r_lA (enc := fun v : Value => v) (zs := [.int .i64 h1, .int .i64 h2, .int .i64 h3]) (hre.later H.only (by simp)) rfl rfl ag102 sz102) ?_
      refine s_al H rfl inf102 ?_
      intro p13 _ H'; clear H; have H := H'; clear H'
      refine s_sw H 0 rfl rfl rfl rfl rfl rfl rfl sz102 ?_
      clear H; intro _ H; simp only [jA, jB, jC, jD, jE, jF, jG, jH, jI, jJ, jK, Nat.reduceAdd] at H
      refine k_nc ?_
      refine k_sg ?_
      refine s_run rfl rfl (r_la H 1 rfl rfl rfl ag149 sz149) ?_
      refine s_call rfl (hSm _) (ca113 rfl) ?_
      rintro e W1 ⟨rfl, H'⟩
      refine ⟨_, rfl, ?_⟩
      have H := H.same H'; clear H'
      refine s_run rfl rfl (rmt rfl) ?_
      refine s_run rfl rfl (r_ext (v := .int _ _) rfl rfl) ?_
      refine s_run rfl rfl (r_ext (v := .bool _) rfl rfl) ?_
      refine s_run rfl rfl (rai rfl) ?_
      refine s_run rfl rfl (rab rfl) ?_
      refine k_nc ?_
      refine k_seq ?_
      refine k_sg ?_
      refine s_run rfl rfl (rmb rfl) ?_
      refine k_nc ?_
      refine k_t rfl ?_
      refine k_sg ?_
      refine s_run rfl rfl (r_la H 3 rfl rfl rfl ag48 sz48) ?_
      refine s_run rfl rfl (rmi rfl) ?_
      refine s_run rfl rfl (rmi rfl) ?_
      refine s_call rfl (hAt _) (ca114 rfl) ?_
      rintro e W1 ⟨rfl, H'⟩
      refine ⟨_, rfl, ?_⟩
      have H := H.same H'; clear H'
      refine s_run rfl rfl (rmt rfl) ?_
      refine s_run rfl rfl (r_ext (v := .agg _) rfl rfl) ?_
      refine s_run rfl rfl (r_ext (v := .bool _) rfl rfl) ?_
      refine s_al H rfl inf173 ?_
      intro p16 _ H'; clear H; have H := H'; clear H'
      refine s_sw H 0 rfl rfl rfl rfl rfl rfl rfl sz173 ?_
      clear H; intro _ H; simp only [jA, jB, jC, jD, jE, jF, jG, jH, jI, jJ, jK, Nat.reduceAdd] at H
      refine s_run rfl rfl (rab rfl) ?_
      refine k_nc ?_
      refine k_seq ?_
      refine k_trF mixed ?_; have H' := H.drew; clear H; have H := H'; clear H'
      refine tqh 1 rfl rfl rfl (fun _ hS => r_mv (v := .bool _) rfl) trivial ?_
      refine tqh 2 rfl rfl rfl (fun _ hS => r_mv (v := .bool _) rfl) trivial ?_
      refine tqh 4 rfl rfl (g_on 60 (by kernel_rfl) rfl) (fun _ hS => r_mv (v := .int _ _) rfl) trivial ?_
      refine tqh 5 rfl rfl (g_on 60 (by kernel_rfl) rfl) (fun _ hS => r_bd (bd102_0_1 _ _) rfl) trivial ?_
      refine t_up2 0 3 (by kernel_rfl) ?_ ?_
      ·refine up_mk rfl ?_
       refine s_run rfl rfl (r_la H 2 rfl rfl rfl ag149 sz149) ?_
       refine k_nil ?_
       refine t_on trivial ?_
       refine t_up2 3 8 (by kernel_rfl) ?_ ?_
       ·refine up_mk rfl ?_
        refine s_run rfl (g_on 60 (by kernel_rfl) rfl) (r_la H 1 rfl rfl rfl ag102 sz102) ?_
        refine k_nil ?_
        refine t_on trivial ?_
        refine tqh 6 rfl rfl (g_on 60 (by kernel_rfl) rfl) (fun _ hS => r_s3q rfl rfl (by kernel_rfl) (by kernel_rfl) (by kernel_rfl) (by kernel_rfl) Try.underlying3 Try.underlying3 Try.underlying3 hde) trivial ?_
        refine tqh 7 rfl rfl rfl (fun _ hS => r_pkT (v := .bool _) rfl rfl) trivial ?_
        refine t_up1 8 (by kernel_rfl) ?_
        refine up_mk rfl ?_
        refine s_sw H 3 rfl rfl rfl rfl rfl rfl rfl sz149 ?_
        clear H; intro _ H; simp only [jA, jB, jC, jD, jE, jF, jG, jH, jI, jJ, jK, Nat.reduceAdd] at H
        refine k_nil ?_
        refine t_on trivial ?_
        refine tqh 9 rfl rfl rfl (fun _ hS => r_as (v := .bool _) rfl) trivial ?_
        refine t_done (by kernel_rfl) ?_
        refine c_norm ?_
        refine k_ret ?_
        refine c_ret ?_
        refine fx2r rfl (rv_a H 3 rfl rfl rfl ag149 sz149) (rv_t (v := .bool _) rfl) ?_
        exact ⟨⟨P, Q, rfl, fun _ => ⟨rfl, rfl⟩⟩, H.only⟩
       ·refine up_mk rfl ?_
        refine s_sw H 3 rfl rfl rfl rfl rfl rfl rfl sz149 ?_
        clear H; intro _ H; simp only [jA, jB, jC, jD, jE, jF, jG, jH, jI, jJ, jK, Nat.reduceAdd] at H
        refine k_nil ?_
        refine t_on trivial ?_
        refine t_up1 3 (by kernel_rfl) ?_
        refine up_mk rfl ?_
        refine s_run rfl (g_on 60 (by kernel_rfl) rfl) (r_la H 1 rfl rfl rfl ag102 sz102) ?_
        refine k_nil ?_
        refine t_on trivial ?_
        refine tqh 6 rfl rfl (g_on 60 (by kernel_rfl) rfl) (fun _ hS => r_s3q rfl rfl (by kernel_rfl) (by kernel_rfl) (by kernel_rfl) (by kernel_rfl) Try.underlying3 Try.underlying3 Try.underlying3 hde) trivial ?_
        refine tqh 7 rfl rfl rfl (fun _ hS => r_pkT (v := .bool _) rfl rfl) trivial ?_
        refine tqh 9 rfl rfl rfl (fun _ hS => r_as (v := .bool _) rfl) trivial ?_
        refine t_done (by kernel_rfl) ?_
        refine c_norm ?_
        refine k_ret ?_
        refine c_ret ?_
        refine fx2r rfl (rv_a H 3 rfl rfl rfl ag149 sz149) (rv_t (v := .bool _) rfl) ?_
        exact ⟨⟨P, Q, rfl, fun _ => ⟨rfl, rfl⟩⟩, H.only⟩
      ·refine up_mk rfl ?_
       refine s_run rfl (g_on 60 (by kernel_rfl) rfl) (r_la H 1 rfl rfl rfl ag102 sz102) ?_
       refine k_nil ?_
       refine t_on trivial ?_
       refine tqh 6 rfl rfl (g_on 60 (by kernel_rfl) rfl) (fun _ hS => r_s3q rfl rfl (by kernel_rfl) (by kernel_rfl) (by kernel_rfl) (by kernel_rfl) Try.underlying3 Try.underlying3 Try.underlying3 hde) trivial ?_
       refine tqh 7 rfl rfl rfl (fun _ hS => r_pkT (v := .bool _) rfl rfl) trivial ?_
       refine t_up1 0 (by kernel_rfl) ?_
       refine up_mk rfl ?_
       refine s_run rfl rfl (r_la H 2 rfl rfl rfl ag149 sz149) ?_
       refine k_nil ?_
       refine t_on trivial ?_
       refine t_up1 8 (by kernel_rfl) ?_
       refine up_mk rfl ?_
       refine s_sw H 3 rfl rfl rfl rfl rfl rfl rfl sz149 ?_
       clear H; intro _ H; simp only [jA, jB, jC, jD, jE, jF, jG, jH, jI, jJ, jK, Nat.reduceAdd] at H
       refine k_nil ?_
       refine t_on trivial ?_
       refine tqh 9 rfl rfl rfl (fun _ hS => r_as (v := .bool _) rfl) trivial ?_
       refine t_done (by kernel_rfl) ?_
       refine c_norm ?_
       refine k_ret ?_
       refine c_ret ?_
       refine fx2r rfl (rv_a H 3 rfl rfl rfl ag149 sz149) (rv_t (v := .bool _) rfl) ?_
       exact ⟨⟨P, Q, rfl, fun _ => ⟨rfl, rfl⟩⟩, H.only⟩
     | false =>
      rw [hat] at hAt
      rw [Bool.false_and]
      refine k_in (N := 87) Try.func90 rfl rfl rfl ?_
      refine k_sg ?_
      refine s_box H rfl rfl ?_
      intro p5 _ H'; clear H; have H := H'; clear H'
      refine s_al H rfl inf149 ?_
      intro p8 _ H'; clear H; have H := H'; clear H'
      refine s_run rfl rfl (rab rfl) ?_
      refine k_nc ?_
      refine k_sg ?_
      refine s_run rfl rfl (r_la H 1 rfl rfl rfl ag48 sz48) ?_
      refine s_run rfl rfl (rmi rfl) ?_
      refine s_call rfl (hB _) (ca112 rfl) ?_
      rintro e W1 ⟨rfl, H'⟩
      refine ⟨_, rfl, ?_⟩
      have H := H.same H'; clear H'
      refine s_run rfl rfl (rai rfl) ?_
      refine k_nc ?_
      refine k_seq ?_
      refine k_sg ?_
      refine s_run rfl rfl (rmi rfl) ?_
      refine s_run rfl rfl (r_lssF rfl rfl (by omega)) ?_
      refine s_run rfl rfl (rmb rfl) ?_
      refine s_run rfl (g_on 25 (by kernel_rfl) rfl) (rmi rfl) ?_
      refine s_run rfl (g_on 25 (by kernel_rfl) rfl) (rms rfl) ?_
      refine s_run rfl (g_on 25 (by kernel_rfl) rfl) (r_len rfl Try.underlying49) ?_
      refine s_run rfl (g_on 25 (by kernel_rfl) rfl) (r_geqF rfl rfl (by omega)) ?_
      refine s_run rfl rfl (r_pkF (v := .bool _) rfl rfl) ?_
      refine k_nc ?_
      refine k_f rfl ?_
      refine k_skip ?_
      refine c_norm ?_
      refine k_sg ?_
      refine s_run rfl rfl (rmp rfl) ?_
      refine s_run rfl rfl (rmi rfl) ?_
      refine s_call rfl (hHd H.only) (ca91 rfl) ?_
      rintro e W1 ⟨rfl, H'⟩
      refine ⟨_, rfl, ?_⟩
      have H := H.same H'; clear H'
      refine s_run rfl rfl (rmt rfl) ?_
      refine s_run rfl rfl (r_ext (v := .agg _) rfl rfl) ?_
      refine s_run rfl rfl (r_ext (v := .int _ _) rfl rfl) ?_
      refine s_al H rfl inf149 ?_
      intro p11 _ H'; clear H; have H := H'; clear H'
      refine s_sw H 0 rfl rfl rfl rfl rfl rfl rfl sz149 ?_
      clear H; intro _ H; simp only [jA, jB, jC, jD, jE, jF, jG, jH, jI, jJ, jK, Nat.reduceAdd] at H
      refine s_run rfl rfl (rai rfl) ?_
      refine k_nc ?_
      refine k_seq ?_
      refine k_sg ?_
      refine s_run rfl rfl (rmi rfl) ?_
      refine s_run rfl rfl (r_neqF rfl rfl (by omega)) ?_
      refine k_nc ?_
      refine k_f rfl ?_
      refine k_skip ?_
      refine c_norm ?_
      refine k_sg ?_
      refine s_run rfl rfl (rms rfl) ?_
      refine s_run rfl rfl (rmi rfl) ?_
      refine s_run rfl rfl (r_ix (i := b) rfl rfl (by omega) (by omega) Try.underlying49 sz102) ?_
      refine s_run rfl rfl (r_lA (enc := fun v : Value => v) (zs := [.int .i64 h.1, .int .i64 h.2.1, .int .i64 h.2.2]) (hre.later H.only (by simp)) rfl rfl ag102 sz102) ?_
      refine s_al H rfl inf102 ?_
      intro p13 _ H'; clear H; have H := H'; clear H'
      refine s_sw H 0 rfl rfl rfl rfl rfl rfl rfl sz102 ?_
      clear H; intro _ H; simp only [jA, jB, jC, jD, jE, jF, jG, jH, jI, jJ, jK, Nat.reduceAdd] at H
      refine k_nc ?_
      refine k_sg ?_
      refine s_run rfl rfl (r_la H 1 rfl rfl rfl ag149 sz149) ?_
      refine s_call rfl (hSm _) (ca113 rfl) ?_
      rintro e W1 ⟨rfl, H'⟩
      refine ⟨_, rfl, ?_⟩
      have H := H.same H'; clear H'
      refine s_run rfl rfl (rmt rfl) ?_
      refine s_run rfl rfl (r_ext (v := .int _ _) rfl rfl) ?_
      refine s_run rfl rfl (r_ext (v := .bool _) rfl rfl) ?_
      refine s_run rfl rfl (rai rfl) ?_
      refine s_run rfl rfl (rab rfl) ?_
      refine k_nc ?_
      refine k_seq ?_
      refine k_sg ?_
      refine s_run rfl rfl (rmb rfl) ?_
      refine k_nc ?_
      refine k_t rfl ?_
      refine k_sg ?_
      refine s_run rfl rfl (r_la H 3 rfl rfl rfl ag48 sz48) ?_
      refine s_run rfl rfl (rmi rfl) ?_
      refine s_run rfl rfl (rmi rfl) ?_
      refine s_call rfl (hAt _) (ca114 rfl) ?_
      rintro e W1 ⟨rfl, H'⟩
      refine ⟨_, rfl, ?_⟩
      have H := H.same H'; clear H'
      refine s_run rfl rfl (rmt rfl) ?_
      refine s_run rfl rfl (r_ext (v := .agg _) rfl rfl) ?_
      refine s_run rfl rfl (r_ext (v := .bool _) rfl rfl) ?_
      refine s_al H rfl inf173 ?_
      intro p16 _ H'; clear H; have H := H'; clear H'
      refine s_sw H 0 rfl rfl rfl rfl rfl rfl rfl sz173 ?_
      clear H; intro _ H; simp only [jA, jB, jC, jD, jE, jF, jG, jH, jI, jJ, jK, Nat.reduceAdd] at H
      refine s_run rfl rfl (rab rfl) ?_
      refine k_nc ?_
      refine k_seq ?_
      refine k_trF mixed ?_; have H' := H.drew; clear H; have H := H'; clear H'
      refine tqh 1 rfl rfl rfl (fun _ hS => r_mv (v := .bool _) rfl) trivial ?_
      refine tqh 2 rfl rfl rfl (fun _ hS => r_mv (v := .bool _) rfl) trivial ?_
      refine toh 3 rfl rfl (g_off 60 (by kernel_rfl) rfl rfl) trivial ?_
      refine toh 4 rfl rfl (g_off 60 (by kernel_rfl) rfl rfl) trivial ?_
      refine toh 5 rfl rfl (g_off 60 (by kernel_rfl) rfl rfl) trivial ?_
      refine toh 6 rfl rfl (g_off 60 (by kernel_rfl) rfl rfl) trivial ?_
      refine tqh 7 rfl rfl rfl (fun _ hS => r_pkF (v := .bool _) rfl rfl) trivial ?_
      refine t_up1 0 (by kernel_rfl) ?_
      refine up_mk rfl ?_
      refine s_run rfl rfl (r_la H 2 rfl rfl rfl ag149 sz149) ?_
      refine k_nil ?_
      refine t_on trivial ?_
      refine t_up1 8 (by kernel_rfl) ?_
      refine up_mk rfl ?_
      refine s_sw H 3 rfl rfl rfl rfl rfl rfl rfl sz149 ?_
      clear H; intro _ H; simp only [jA, jB, jC, jD, jE, jF, jG, jH, jI, jJ, jK, Nat.reduceAdd] at H
      refine k_nil ?_
      refine t_on trivial ?_
      refine tqh 9 rfl rfl rfl (fun _ hS => r_as (v := .bool _) rfl) trivial ?_
      refine t_done (by kernel_rfl) ?_
      refine c_norm ?_
      refine k_ret ?_
      refine c_ret ?_
      refine fx2r rfl (rv_a H 3 rfl rfl rfl ag149 sz149) (rv_t (v := .bool _) rfl) ?_
      exact ⟨⟨P, Q, rfl, fun _ => ⟨rfl, rfl⟩⟩, H.only⟩
    | false =>
     rw [hob] at hSm
     rw [if_neg (by simp), hb, Int.toNat_natCast]
     have hWh := fun {W : World} (h : Only [] w W) => bWhole (some ⟨q, o, none⟩) k c hs b W (hS.later h (by simp)) hk hk2 (by omega) hW
     cases hwh : Ob.whole hs b with
     | true =>
      have hwl : Ob.wlen hs b = h.2.2 := by unfold Ob.wlen; rw [hwh, hh]; rfl
      rw [hwh, hwl] at hWh
      rw [Bool.true_and]
      by_cases hf : a = Ce.first n b
      ·rw [decide_eq_true hf, Bool.true_and]
       by_cases hbl : h.2.2 = Oh.blocks P Q
       ·rw [decide_eq_true hbl]
        refine k_in (N := 87) Try.func90 rfl rfl rfl ?_
        refine k_sg ?_
        refine s_box H rfl rfl ?_
        intro p5 _ H'; clear H; have H := H'; clear H'
        refine s_al H rfl inf149 ?_
        intro p8 _ H'; clear H; have H := H'; clear H'
        refine s_run rfl rfl (rab rfl) ?_
        refine k_nc ?_
        refine k_sg ?_
        refine s_run rfl rfl (r_la H 1 rfl rfl rfl ag48 sz48) ?_
        refine s_run rfl rfl (rmi rfl) ?_
        refine s_call rfl (hB _) (ca112 rfl) ?_
        rintro e W1 ⟨rfl, H'⟩
        refine ⟨_, rfl, ?_⟩
        have H := H.same H'; clear H'
        refine s_run rfl rfl (rai rfl) ?_
        refine k_nc ?_
        refine k_seq ?_
        refine k_sg ?_
        refine s_run rfl rfl (rmi rfl) ?_
        refine s_run rfl rfl (r_lssF rfl rfl (by omega)) ?_
        refine s_run rfl rfl (rmb rfl) ?_
        refine s_run rfl (g_on 25 (by kernel_rfl) rfl) (rmi rfl) ?_
        refine s_run rfl (g_on 25 (by kernel_rfl) rfl) (rms rfl) ?_
        refine s_run rfl (g_on 25 (by kernel_rfl) rfl) (r_len rfl Try.underlying49) ?_
        refine s_run rfl (g_on 25 (by kernel_rfl) rfl) (r_geqF rfl rfl (by omega)) ?_
        refine s_run rfl rfl (r_pkF (v := .bool _) rfl rfl) ?_
        refine k_nc ?_
        refine k_f rfl ?_
        refine k_skip ?_
        refine c_norm ?_
        refine k_sg ?_
        refine s_run rfl rfl (rmp rfl) ?_
        refine s_run rfl rfl (rmi rfl) ?_
        refine s_call rfl (hHd H.only) (ca91 rfl) ?_
        rintro e W1 ⟨rfl, H'⟩
        refine ⟨_, rfl, ?_⟩
        have H := H.same H'; clear H'
        refine s_run rfl rfl (rmt rfl) ?_
        refine s_run rfl rfl (r_ext (v := .agg _) rfl rfl) ?_
        refine s_run rfl rfl (r_ext (v := .int _ _) rfl rfl) ?_
        refine s_al H rfl inf149 ?_
        intro p11 _ H'; clear H; have H := H'; clear H'
        refine s_sw H 0 rfl rfl rfl rfl rfl rfl rfl sz149 ?_
        clear H; intro _ H; simp only [jA, jB, jC, jD, jE, jF, jG, jH, jI, jJ, jK, Nat.reduceAdd] at H
        refine s_run rfl rfl (rai rfl) ?_
        refine k_nc ?_
        refine k_seq ?_
        refine k_sg ?_
        refine s_run rfl rfl (rmi rfl) ?_
        refine s_run rfl rfl (r_neqF rfl rfl (by omega)) ?_
        refine k_nc ?_
        refine k_f rfl ?_
        refine k_skip ?_
        refine c_norm ?_
        refine k_sg ?_
        refine s_run rfl rfl (rms rfl) ?_
        refine s_run rfl rfl (rmi rfl) ?_
        refine s_run rfl rfl (r_ix (i := b) rfl rfl (by omega) (by omega) Try.underlying49 sz102) ?_
        refine s_run rfl rfl (r_lA (enc := fun v : Value => v) (zs := [.int .i64 h.1, .int .i64 h.2.1, .int .i64 h.2.2]) (hre.later H.only (by simp)) rfl rfl ag102 sz102) ?_
        refine s_al H rfl inf102 ?_
        intro p13 _ H'; clear H; have H := H'; clear H'
        refine s_sw H 0 rfl rfl rfl rfl rfl rfl rfl sz102 ?_
        clear H; intro _ H; simp only [jA, jB, jC, jD, jE, jF, jG, jH, jI, jJ, jK, Nat.reduceAdd] at H
        refine k_nc ?_
        refine k_sg ?_
        refine s_run rfl rfl (r_la H 1 rfl rfl rfl ag149 sz149) ?_
        refine s_call rfl (hSm _) (ca113 rfl) ?_
        rintro e W1 ⟨rfl, H'⟩
        refine ⟨_, rfl, ?_⟩
        have H := H.same H'; clear H'
        refine s_run rfl rfl (rmt rfl) ?_
        refine s_run rfl rfl (r_ext (v := .int _ _) rfl rfl) ?_
        refine s_run rfl rfl (r_ext (v := .bool _) rfl rfl) ?_
        refine s_run rfl rfl (rai rfl) ?_
        refine s_run rfl rfl (rab rfl) ?_
        refine k_nc ?_
        refine k_seq ?_
        refine k_sg ?_
        refine s_run rfl rfl (rmb rfl) ?_
        refine k_nc ?_
        refine k_f rfl ?_
        refine k_skip ?_
        refine c_norm ?_
        refine k_sg ?_
        refine s_run rfl rfl (rms rfl) ?_
        refine s_run rfl rfl (rmi rfl) ?_
        refine s_call rfl (hWh H.only) (ca115 rfl) ?_
        rintro e W1 ⟨rfl, H'⟩
        refine ⟨_, rfl, ?_⟩
        have H := H.same H'; clear H'
        refine s_run rfl rfl (rmt rfl) ?_
        refine s_run rfl rfl (r_ext (v := .int _ _) rfl rfl) ?_
        refine s_run rfl rfl (r_ext (v := .bool _) rfl rfl) ?_
        refine s_run rfl rfl (rai rfl) ?_
        refine s_run rfl rfl (rab rfl) ?_
        refine k_nc ?_
        refine k_seq ?_
        refine k_trF mixed ?_; have H' := H.drew; clear H; have H := H'; clear H'
        refine tqh 1 rfl rfl rfl (fun _ hS => r_mv (v := .bool _) rfl) trivial ?_
        refine tqh 2 rfl rfl rfl (fun _ hS => r_mv (v := .bool _) rfl) trivial ?_
        refine tqh 3 rfl rfl (g_on 74 (by kernel_rfl) rfl) (fun _ hS => r_mv (v := .int _ _) rfl) trivial ?_
        refine tqh 5 rfl rfl (g_on 74 (by kernel_rfl) rfl) (fun _ hS => r_mv (v := .int _ _) rfl) trivial ?_
        refine t_up2 0 4 (by kernel_rfl) ?_ ?_
        ·refine up_mk rfl ?_
         refine s_run rfl rfl (r_la H 1 rfl rfl rfl ag149 sz149) ?_
         refine k_nil ?_
         refine t_on trivial ?_
         refine t_up1 4 (by kernel_rfl) ?_
         refine up_mk rfl ?_
         refine s_run rfl (g_on 74 (by kernel_rfl) rfl) (r_la H 3 rfl rfl rfl ag48 sz48) ?_
         refine k_nil ?_
         refine t_on trivial ?_
         refine t_up1 6 (by kernel_rfl) ?_
         refine up_mk rfl ?_
         refine s_call (g_on 74 (by kernel_rfl) rfl) (hFi _) (ca116 rfl) ?_
         rintro e W1 ⟨rfl, H'⟩
         refine ⟨_, rfl, ?_⟩
         have H := H.same H'; clear H'
         refine k_nil ?_
         refine t_on trivial ?_
         refine tqh 7 rfl rfl (g_on 74 (by kernel_rfl) rfl) (fun _ hS => r_eqlT rfl rfl (by omega)) trivial ?_
         refine tqh 8 rfl rfl rfl (fun _ hS => r_pkT (v := .bool _) rfl rfl) trivial ?_
         refine tqh 9 rfl rfl rfl (fun _ hS => r_mv (v := .bool _) rfl) trivial ?_
         refine tqh 10 rfl rfl (g_on 81 (by kernel_rfl) rfl) (fun _ hS => r_mv (v := .int _ _) rfl) trivial ?_
         refine t_up1 11 (by kernel_rfl) ?_
         refine up_mk rfl ?_
         refine s_run rfl (g_on 81 (by kernel_rfl) rfl) (r_la H 1 rfl rfl rfl ag149 sz149) ?_
         refine k_nil ?_
         refine t_on trivial ?_
         refine t_up1 12 (by kernel_rfl) ?_
         refine up_mk rfl ?_
         refine s_call (g_on 81 (by kernel_rfl) rfl) (hBl _) (ca117 rfl) ?_
         rintro e W1 ⟨rfl, H'⟩
         refine ⟨_, rfl, ?_⟩
         have H := H.same H'; clear H'
         refine k_nil ?_
         refine t_on trivial ?_
         refine tqh 13 rfl rfl (g_on 81 (by kernel_rfl) rfl) (fun _ hS => r_eqlT rfl rfl (by omega)) trivial ?_
         refine tqh 14 rfl rfl rfl (fun _ hS => r_pkT (v := .bool _) rfl rfl) trivial ?_
         refine t_up1 15 (by kernel_rfl) ?_
         refine up_mk rfl ?_
         refine s_sw H 2 rfl rfl rfl rfl rfl rfl rfl sz149 ?_
         clear H; intro _ H; simp only [jA, jB, jC, jD, jE, jF, jG, jH, jI, jJ, jK, Nat.reduceAdd] at H
         refine k_nil ?_
         refine t_on trivial ?_
         refine tqh 16 rfl rfl rfl (fun _ hS => r_as (v := .bool _) rfl) trivial ?_
         refine t_done (by kernel_rfl) ?_
         refine c_norm ?_
         refine k_ret ?_
         refine fx2r rfl (rv_a H 2 rfl rfl rfl ag149 sz149) (rv_t (v := .bool _) rfl) ?_
         exact ⟨⟨P, Q, rfl, fun _ => ⟨rfl, rfl⟩⟩, H.only⟩
        ·refine up_mk rfl ?_
         refine s_run rfl (g_on 74 (by kernel_rfl) rfl) (r_la H 3 rfl rfl rfl ag48 sz48) ?_
         refine k_nil ?_
         refine t_on trivial ?_
         refine t_up2 0 6 (by kernel_rfl) ?_ ?_
         ·refine up_mk rfl ?_
          refine s_run rfl rfl (r_la H 1 rfl rfl rfl ag149 sz149) ?_
          refine k_nil ?_
          refine t_on trivial ?_
          refine t_up1 6 (by kernel_rfl) ?_
          refine up_mk rfl ?_
          refine s_call (g_on 74 (by kernel_rfl) rfl) (hFi _) (ca116 rfl) ?_
          rintro e W1 ⟨rfl, H'⟩
          refine ⟨_, rfl, ?_⟩
          have H := H.same H'; clear H'
          refine k_nil ?_
          refine t_on trivial ?_
          refine tqh 7 rfl rfl (g_on 74 (by kernel_rfl) rfl) (fun _ hS => r_eqlT rfl rfl (by omega)) trivial ?_
          refine tqh 8 rfl rfl rfl (fun _ hS => r_pkT (v := .bool _) rfl rfl) trivial ?_
          refine tqh 9 rfl rfl rfl (fun _ hS => r_mv (v := .bool _) rfl) trivial ?_
          refine tqh 10 rfl rfl (g_on 81 (by kernel_rfl) rfl) (fun _ hS => r_mv (v := .int _ _) rfl) trivial ?_
          refine t_up1 11 (by kernel_rfl) ?_
          refine up_mk rfl ?_
          refine s_run rfl (g_on 81 (by kernel_rfl) rfl) (r_la H 1 rfl rfl rfl ag149 sz149) ?_
          refine k_nil ?_
          refine t_on trivial ?_
          refine t_up1 12 (by kernel_rfl) ?_
          refine up_mk rfl ?_
          refine s_call (g_on 81 (by kernel_rfl) rfl) (hBl _) (ca117 rfl) ?_
          rintro e W1 ⟨rfl, H'⟩
          refine ⟨_, rfl, ?_⟩
          have H := H.same H'; clear H'
          refine k_nil ?_
          refine t_on trivial ?_
          refine tqh 13 rfl rfl (g_on 81 (by kernel_rfl) rfl) (fun _ hS => r_eqlT rfl rfl (by omega)) trivial ?_
          refine tqh 14 rfl rfl rfl (fun _ hS => r_pkT (v := .bool _) rfl rfl) trivial ?_
          refine t_up1 15 (by kernel_rfl) ?_
          refine up_mk rfl ?_
          refine s_sw H 2 rfl rfl rfl rfl rfl rfl rfl sz149 ?_
          clear H; intro _ H; simp only [jA, jB, jC, jD, jE, jF, jG, jH, jI, jJ, jK, Nat.reduceAdd] at H
          refine k_nil ?_
          refine t_on trivial ?_
          refine tqh 16 rfl rfl rfl (fun _ hS => r_as (v := .bool _) rfl) trivial ?_
          refine t_done (by kernel_rfl) ?_
          refine c_norm ?_
          refine k_ret ?_
          refine fx2r rfl (rv_a H 2 rfl rfl rfl ag149 sz149) (rv_t (v := .bool _) rfl) ?_
          exact ⟨⟨P, Q, rfl, fun _ => ⟨rfl, rfl⟩⟩, H.only⟩
         ·refine up_mk rfl ?_
          refine s_call (g_on 74 (by kernel_rfl) rfl) (hFi _) (ca116 rfl) ?_
          rintro e W1 ⟨rfl, H'⟩
          refine ⟨_, rfl, ?_⟩
          have H := H.same H'; clear H'
          refine k_nil ?_
          refine t_on trivial ?_
          refine tqh 7 rfl rfl (g_on 74 (by kernel_rfl) rfl) (fun _ hS => r_eqlT rfl rfl (by omega)) trivial ?_
          refine tqh 8 rfl rfl rfl (fun _ hS => r_pkT (v := .bool _) rfl rfl) trivial ?_
          refine tqh 9 rfl rfl rfl (fun _ hS => r_mv (v := .bool _) rfl) trivial ?_
          refine tqh 10 rfl rfl (g_on 81 (by kernel_rfl) rfl) (fun _ hS => r_mv (v := .int _ _) rfl) trivial ?_
          refine t_up2 0 11 (by kernel_rfl) ?_ ?_
          ·refine up_mk rfl ?_
           refine s_run rfl rfl (r_la H 1 rfl rfl rfl ag149 sz149) ?_
           refine k_nil ?_
           refine t_on trivial ?_
           refine t_up1 11 (by kernel_rfl) ?_
           refine up_mk rfl ?_
           refine s_run rfl (g_on 81 (by kernel_rfl) rfl) (r_la H 1 rfl rfl rfl ag149 sz149) ?_
           refine k_nil ?_
           refine t_on trivial ?_
           refine t_up1 12 (by kernel_rfl) ?_
           refine up_mk rfl ?_
           refine s_call (g_on 81 (by kernel_rfl) rfl) (hBl _) (ca117 rfl) ?_
           rintro e W1 ⟨rfl, H'⟩
           refine ⟨_, rfl, ?_⟩
           have H := H.same H'; clear H'
           refine k_nil ?_
           refine t_on trivial ?_
           refine tqh 13 rfl rfl (g_on 81 (by kernel_rfl) rfl) (fun _ hS => r_eqlT rfl rfl (by omega)) trivial ?_
           refine tqh 14 rfl rfl rfl (fun _ hS => r_pkT (v := .bool _) rfl rfl) trivial ?_
           refine t_up1 15 (by kernel_rfl) ?_
           refine up_mk rfl ?_
           refine s_sw H 2 rfl rfl rfl rfl rfl rfl rfl sz149 ?_
           clear H; intro _ H; simp only [jA, jB, jC, jD, jE, jF, jG, jH, jI, jJ, jK, Nat.reduceAdd] at H
           refine k_nil ?_
           refine t_on trivial ?_
           refine tqh 16 rfl rfl rfl (fun _ hS => r_as (v := .bool _) rfl) trivial ?_
           refine t_done (by kernel_rfl) ?_
           refine c_norm ?_
           refine k_ret ?_
           refine fx2r rfl (rv_a H 2 rfl rfl rfl ag149 sz149) (rv_t (v := .bool _) rfl) ?_
           exact ⟨⟨P, Q, rfl, fun _ => ⟨rfl, rfl⟩⟩, H.only⟩
          ·refine up_mk rfl ?_
           refine s_run rfl (g_on 81 (by kernel_rfl) rfl) (r_la H 1 rfl rfl rfl ag149 sz149) ?_
           refine k_nil ?_
           refine t_on trivial ?_
           refine t_up2 0 12 (by kernel_rfl) ?_ ?_
           ·refine up_mk rfl ?_
            refine s_run rfl rfl (r_la H 1 rfl rfl rfl ag149 sz149) ?_
            refine k_nil ?_
            refine t_on trivial ?_
            refine t_up1 12 (by kernel_rfl) ?_
            refine up_mk rfl ?_
            refine s_call (g_on 81 (by kernel_rfl) rfl) (hBl _) (ca117 rfl) ?_
            rintro e W1 ⟨rfl, H'⟩
            refine ⟨_, rfl, ?_⟩
            have H := H.same H'; clear H'
            refine k_nil ?_
            refine t_on trivial ?_
            refine tqh 13 rfl rfl (g_on 81 (by kernel_rfl) rfl) (fun _ hS => r_eqlT rfl rfl (by omega)) trivial ?_
            refine tqh 14 rfl rfl rfl (fun _ hS => r_pkT (v := .bool _) rfl rfl) trivial ?_
            refine t_up1 15 (by kernel_rfl) ?_
            refine up_mk rfl ?_
            refine s_sw H 2 rfl rfl rfl rfl rfl rfl rfl sz149 ?_
            clear H; intro _ H; simp only [jA, jB, jC, jD, jE, jF, jG, jH, jI, jJ, jK, Nat.reduceAdd] at H
            refine k_nil ?_
            refine t_on trivial ?_
            refine tqh 16 rfl rfl rfl (fun _ hS => r_as (v := .bool _) rfl) trivial ?_
            refine t_done (by kernel_rfl) ?_
            refine c_norm ?_
            refine k_ret ?_
            refine fx2r rfl (rv_a H 2 rfl rfl rfl ag149 sz149) (rv_t (v := .bool _) rfl) ?_
            exact ⟨⟨P, Q, rfl, fun _ => ⟨rfl, rfl⟩⟩, H.only⟩
           ·refine up_mk rfl ?_
            refine s_call (g_on 81 (by kernel_rfl) rfl) (hBl _) (ca117 rfl) ?_
            rintro e W1 ⟨rfl, H'⟩
            refine ⟨_, rfl, ?_⟩
            have H := H.same H'; clear H'
            refine k_nil ?_
            refine t_on trivial ?_
            refine tqh 13 rfl rfl (g_on 81 (by kernel_rfl) rfl) (fun _ hS => r_eqlT rfl rfl (by omega)) trivial ?_
            refine tqh 14 rfl rfl rfl (fun _ hS => r_pkT (v := .bool _) rfl rfl) trivial ?_
            refine t_up1 0 (by kernel_rfl) ?_
            refine up_mk rfl ?_
            refine s_run rfl rfl (r_la H 1 rfl rfl rfl ag149 sz149) ?_
            refine k_nil ?_
            refine t_on trivial ?_
            refine t_up1 15 (by kernel_rfl) ?_
            refine up_mk rfl ?_
            refine s_sw H 2 rfl rfl rfl rfl rfl rfl rfl sz149 ?_
            clear H; intro _ H; simp only [jA, jB, jC, jD, jE, jF, jG, jH, jI, jJ, jK, Nat.reduceAdd] at H
            refine k_nil ?_
            refine t_on trivial ?_
            refine tqh 16 rfl rfl rfl (fun _ hS => r_as (v := .bool _) rfl) trivial ?_
            refine t_done (by kernel_rfl) ?_
            refine c_norm ?_
            refine k_ret ?_
            refine fx2r rfl (rv_a H 2 rfl rfl rfl ag149 sz149) (rv_t (v := .bool _) rfl) ?_
            exact ⟨⟨P, Q, rfl, fun _ => ⟨rfl, rfl⟩⟩, H.only⟩
       ·rw [decide_eq_false hbl]
        refine k_in (N := 87) Try.func90 rfl rfl rfl ?_
        refine k_sg ?_
        refine s_box H rfl rfl ?_
        intro p5 _ H'; clear H; have H := H'; clear H'
        refine s_al H rfl inf149 ?_
        intro p8 _ H'; clear H; have H := H'; clear H'
        refine s_run rfl rfl (rab rfl) ?_
        refine k_nc ?_
        refine k_sg ?_
        refine s_run rfl rfl (r_la H 1 rfl rfl rfl ag48 sz48) ?_
        refine s_run rfl rfl (rmi rfl) ?_
        refine s_call rfl (hB _) (ca112 rfl) ?_
        rintro e W1 ⟨rfl, H'⟩
        refine ⟨_, rfl, ?_⟩
        have H := H.same H'; clear H'
        refine s_run rfl rfl (rai rfl) ?_
        refine k_nc ?_
        refine k_seq ?_
        refine k_sg ?_
        refine s_run rfl rfl (rmi rfl) ?_
        refine s_run rfl rfl (r_lssF rfl rfl (by omega)) ?_
        refine s_run rfl rfl (rmb rfl) ?_
        refine s_run rfl (g_on 25 (by kernel_rfl) rfl) (rmi rfl) ?_
        refine s_run rfl (g_on 25 (by kernel_rfl) rfl) (rms rfl) ?_
        refine s_run rfl (g_on 25 (by kernel_rfl) rfl) (r_len rfl Try.underlying49) ?_
        refine s_run rfl (g_on 25 (by kernel_rfl) rfl) (r_geqF rfl rfl (by omega)) ?_
        refine s_run rfl rfl (r_pkF (v := .bool _) rfl rfl) ?_
        refine k_nc ?_
        refine k_f rfl ?_
        refine k_skip ?_
        refine c_norm ?_
        refine k_sg ?_
        refine s_run rfl rfl (rmp rfl) ?_
        refine s_run rfl rfl (rmi rfl) ?_
        refine s_call rfl (hHd H.only) (ca91 rfl) ?_
        rintro e W1 ⟨rfl, H'⟩
        refine ⟨_, rfl, ?_⟩
        have H := H.same H'; clear H'
        refine s_run rfl rfl (rmt rfl) ?_
        refine s_run rfl rfl (r_ext (v := .agg _) rfl rfl) ?_
        refine s_run rfl rfl (r_ext (v := .int _ _) rfl rfl) ?_
        refine s_al H rfl inf149 ?_
        intro p11 _ H'; clear H; have H := H'; clear H'
        refine s_sw H 0 rfl rfl rfl rfl rfl rfl rfl sz149 ?_
        clear H; intro _ H; simp only [jA, jB, jC, jD, jE, jF, jG, jH, jI, jJ, jK, Nat.reduceAdd] at H
        refine s_run rfl rfl (rai rfl) ?_
        refine k_nc ?_
        refine k_seq ?_
        refine k_sg ?_
        refine s_run rfl rfl (rmi rfl) ?_
        refine s_run rfl rfl (r_neqF rfl rfl (by omega)) ?_
        refine k_nc ?_
        refine k_f rfl ?_
        refine k_skip ?_
        refine c_norm ?_
        refine k_sg ?_
        refine s_run rfl rfl (rms rfl) ?_
        refine s_run rfl rfl (rmi rfl) ?_
        refine s_run rfl rfl (r_ix (i := b) rfl rfl (by omega) (by omega) Try.underlying49 sz102) ?_
        refine s_run rfl rfl (r_lA (enc := fun v : Value => v) (zs := [.int .i64 h.1, .int .i64 h.2.1, .int .i64 h.2.2]) (hre.later H.only (by simp)) rfl rfl ag102 sz102) ?_
        refine s_al H rfl inf102 ?_
        intro p13 _ H'; clear H; have H := H'; clear H'
        refine s_sw H 0 rfl rfl rfl rfl rfl rfl rfl sz102 ?_
        clear H; intro _ H; simp only [jA, jB, jC, jD, jE, jF, jG, jH, jI, jJ, jK, Nat.reduceAdd] at H
        refine k_nc ?_
        refine k_sg ?_
        refine s_run rfl rfl (r_la H 1 rfl rfl rfl ag149 sz149) ?_
        refine s_call rfl (hSm _) (ca113 rfl) ?_
        rintro e W1 ⟨rfl, H'⟩
        refine ⟨_, rfl, ?_⟩
        have H := H.same H'; clear H'
        refine s_run rfl rfl (rmt rfl) ?_
        refine s_run rfl rfl (r_ext (v := .int _ _) rfl rfl) ?_
        refine s_run rfl rfl (r_ext (v := .bool _) rfl rfl) ?_
        refine s_run rfl rfl (rai rfl) ?_
        refine s_run rfl rfl (rab rfl) ?_
        refine k_nc ?_
        refine k_seq ?_
        refine k_sg ?_
        refine s_run rfl rfl (rmb rfl) ?_
        refine k_nc ?_
        refine k_f rfl ?_
        refine k_skip ?_
        refine c_norm ?_
        refine k_sg ?_
        refine s_run rfl rfl (rms rfl) ?_
        refine s_run rfl rfl (rmi rfl) ?_
        refine s_call rfl (hWh H.only) (ca115 rfl) ?_
        rintro e W1 ⟨rfl, H'⟩
        refine ⟨_, rfl, ?_⟩
        have H := H.same H'; clear H'
        refine s_run rfl rfl (rmt rfl) ?_
        refine s_run rfl rfl (r_ext (v := .int _ _) rfl rfl) ?_
        refine s_run rfl rfl (r_ext (v := .bool _) rfl rfl) ?_
        refine s_run rfl rfl (rai rfl) ?_
        refine s_run rfl rfl (rab rfl) ?_
        refine k_nc ?_
        refine k_seq ?_
        refine k_trF mixed ?_; have H' := H.drew; clear H; have H := H'; clear H'
        refine tqh 1 rfl rfl rfl (fun _ hS => r_mv (v := .bool _) rfl) trivial ?_
        refine tqh 2 rfl rfl rfl (fun _ hS => r_mv (v := .bool _) rfl) trivial ?_
        refine tqh 3 rfl rfl (g_on 74 (by kernel_rfl) rfl) (fun _ hS => r_mv (v := .int _ _) rfl) trivial ?_
        refine tqh 5 rfl rfl (g_on 74 (by kernel_rfl) rfl) (fun _ hS => r_mv (v := .int _ _) rfl) trivial ?_
        refine t_up2 0 4 (by kernel_rfl) ?_ ?_
        ·refine up_mk rfl ?_
         refine s_run rfl rfl (r_la H 1 rfl rfl rfl ag149 sz149) ?_
         refine k_nil ?_
         refine t_on trivial ?_
         refine t_up1 4 (by kernel_rfl) ?_
         refine up_mk rfl ?_
         refine s_run rfl (g_on 74 (by kernel_rfl) rfl) (r_la H 3 rfl rfl rfl ag48 sz48) ?_
         refine k_nil ?_
         refine t_on trivial ?_
         refine t_up1 6 (by kernel_rfl) ?_
         refine up_mk rfl ?_
         refine s_call (g_on 74 (by kernel_rfl) rfl) (hFi _) (ca116 rfl) ?_
         rintro e W1 ⟨rfl, H'⟩
         refine ⟨_, rfl, ?_⟩
         have H := H.same H'; clear H'
         refine k_nil ?_
         refine t_on trivial ?_
         refine tqh 7 rfl rfl (g_on 74 (by kernel_rfl) rfl) (fun _ hS => r_eqlT rfl rfl (by omega)) trivial ?_
         refine tqh 8 rfl rfl rfl (fun _ hS => r_pkT (v := .bool _) rfl rfl) trivial ?_
         refine tqh 9 rfl rfl rfl (fun _ hS => r_mv (v := .bool _) rfl) trivial ?_
         refine tqh 10 rfl rfl (g_on 81 (by kernel_rfl) rfl) (fun _ hS => r_mv (v := .int _ _) rfl) trivial ?_
         refine t_up1 11 (by kernel_rfl) ?_
         refine up_mk rfl ?_
         refine s_run rfl (g_on 81 (by kernel_rfl) rfl) (r_la H 1 rfl rfl rfl ag149 sz149) ?_
         refine k_nil ?_
         refine t_on trivial ?_
         refine t_up1 12 (by kernel_rfl) ?_
         refine up_mk rfl ?_
         refine s_call (g_on 81 (by kernel_rfl) rfl) (hBl _) (ca117 rfl) ?_
         rintro e W1 ⟨rfl, H'⟩
         refine ⟨_, rfl, ?_⟩
         have H := H.same H'; clear H'
         refine k_nil ?_
         refine t_on trivial ?_
         refine tqh 13 rfl rfl (g_on 81 (by kernel_rfl) rfl) (fun _ hS => r_eqlF rfl rfl (by omega)) trivial ?_
         refine tqh 14 rfl rfl rfl (fun _ hS => r_pkT (v := .bool _) rfl rfl) trivial ?_
         refine t_up1 15 (by kernel_rfl) ?_
         refine up_mk rfl ?_
         refine s_sw H 2 rfl rfl rfl rfl rfl rfl rfl sz149 ?_
         clear H; intro _ H; simp only [jA, jB, jC, jD, jE, jF, jG, jH, jI, jJ, jK, Nat.reduceAdd] at H
         refine k_nil ?_
         refine t_on trivial ?_
         refine tqh 16 rfl rfl rfl (fun _ hS => r_as (v := .bool _) rfl) trivial ?_
         refine t_done (by kernel_rfl) ?_
         refine c_norm ?_
         refine k_ret ?_
         refine fx2r rfl (rv_a H 2 rfl rfl rfl ag149 sz149) (rv_t (v := .bool _) rfl) ?_
         exact ⟨⟨P, Q, rfl, fun _ => ⟨rfl, rfl⟩⟩, H.only⟩
        ·refine up_mk rfl ?_
         refine s_run rfl (g_on 74 (by kernel_rfl) rfl) (r_la H 3 rfl rfl rfl ag48 sz48) ?_
         refine k_nil ?_
         refine t_on trivial ?_
         refine t_up2 0 6 (by kernel_rfl) ?_ ?_
         ·refine up_mk rfl ?_
          refine s_run rfl rfl (r_la H 1 rfl rfl rfl ag149 sz149) ?_
          refine k_nil ?_
          refine t_on trivial ?_
          refine t_up1 6 (by kernel_rfl) ?_
          refine up_mk rfl ?_
          refine s_call (g_on 74 (by kernel_rfl) rfl) (hFi _) (ca116 rfl) ?_
          rintro e W1 ⟨rfl, H'⟩
          refine ⟨_, rfl, ?_⟩
          have H := H.same H'; clear H'
          refine k_nil ?_
          refine t_on trivial ?_
          refine tqh 7 rfl rfl (g_on 74 (by kernel_rfl) rfl) (fun _ hS => r_eqlT rfl rfl (by omega)) trivial ?_
          refine tqh 8 rfl rfl rfl (fun _ hS => r_pkT (v := .bool _) rfl rfl) trivial ?_
          refine tqh 9 rfl rfl rfl (fun _ hS => r_mv (v := .bool _) rfl) trivial ?_
          refine tqh 10 rfl rfl (g_on 81 (by kernel_rfl) rfl) (fun _ hS => r_mv (v := .int _ _) rfl) trivial ?_
          refine t_up1 11 (by kernel_rfl) ?_
          refine up_mk rfl ?_
          refine s_run rfl (g_on 81 (by kernel_rfl) rfl) (r_la H 1 rfl rfl rfl ag149 sz149) ?_
          refine k_nil ?_
          refine t_on trivial ?_
          refine t_up1 12 (by kernel_rfl) ?_
          refine up_mk rfl ?_
          refine s_call (g_on 81 (by kernel_rfl) rfl) (hBl _) (ca117 rfl) ?_
          rintro e W1 ⟨rfl, H'⟩
          refine ⟨_, rfl, ?_⟩
          have H := H.same H'; clear H'
          refine k_nil ?_
          refine t_on trivial ?_
          refine tqh 13 rfl rfl (g_on 81 (by kernel_rfl) rfl) (fun _ hS => r_eqlF rfl rfl (by omega)) trivial ?_
          refine tqh 14 rfl rfl rfl (fun _ hS => r_pkT (v := .bool _) rfl rfl) trivial ?_
          refine t_up1 15 (by kernel_rfl) ?_
          refine up_mk rfl ?_
          refine s_sw H 2 rfl rfl rfl rfl rfl rfl rfl sz149 ?_
          clear H; intro _ H; simp only [jA, jB, jC, jD, jE, jF, jG, jH, jI, jJ, jK, Nat.reduceAdd] at H
          refine k_nil ?_
          refine t_on trivial ?_
          refine tqh 16 rfl rfl rfl (fun _ hS => r_as (v := .bool _) rfl) trivial ?_
          refine t_done (by kernel_rfl) ?_
          refine c_norm ?_
          refine k_ret ?_
          refine fx2r rfl (rv_a H 2 rfl rfl rfl ag149 sz149) (rv_t (v := .bool _) rfl) ?_
          exact ⟨⟨P, Q, rfl, fun _ => ⟨rfl, rfl⟩⟩, H.only⟩
         ·refine up_mk rfl ?_
          refine s_call (g_on 74 (by kernel_rfl) rfl) (hFi _) (ca116 rfl) ?_
          rintro e W1 ⟨rfl, H'⟩
          refine ⟨_, rfl, ?_⟩
          have H := H.same H'; clear H'
          refine k_nil ?_
          refine t_on trivial ?_
          refine tqh 7 rfl rfl (g_on 74 (by kernel_rfl) rfl) (fun _ hS => r_eqlT rfl rfl (by omega)) trivial ?_
          refine tqh 8 rfl rfl rfl (fun _ hS => r_pkT (v := .bool _) rfl rfl) trivial ?_
          refine tqh 9 rfl rfl rfl (fun _ hS => r_mv (v := .bool _) rfl) trivial ?_
          refine tqh 10 rfl rfl (g_on 81 (by kernel_rfl) rfl) (fun _ hS => r_mv (v := .int _ _) rfl) trivial ?_
          refine t_up2 0 11 (by kernel_rfl) ?_ ?_
          ·refine up_mk rfl ?_
           refine s_run rfl rfl (r_la H 1 rfl rfl rfl ag149 sz149) ?_
           refine k_nil ?_
           refine t_on trivial ?_
           refine t_up1 11 (by kernel_rfl) ?_
           refine up_mk rfl ?_
           refine s_run rfl (g_on 81 (by kernel_rfl) rfl) (r_la H 1 rfl rfl rfl ag149 sz149) ?_
           refine k_nil ?_
           refine t_on trivial ?_
           refine t_up1 12 (by kernel_rfl) ?_
           refine up_mk rfl ?_
           refine s_call (g_on 81 (by kernel_rfl) rfl) (hBl _) (ca117 rfl) ?_
           rintro e W1 ⟨rfl, H'⟩
           refine ⟨_, rfl, ?_⟩
           have H := H.same H'; clear H'
           refine k_nil ?_
           refine t_on trivial ?_
           refine tqh 13 rfl rfl (g_on 81 (by kernel_rfl) rfl) (fun _ hS => r_eqlF rfl rfl (by omega)) trivial ?_
           refine tqh 14 rfl rfl rfl (fun _ hS => r_pkT (v := .bool _) rfl rfl) trivial ?_
           refine t_up1 15 (by kernel_rfl) ?_
           refine up_mk rfl ?_
           refine s_sw H 2 rfl rfl rfl rfl rfl rfl rfl sz149 ?_
           clear H; intro _ H; simp only [jA, jB, jC, jD, jE, jF, jG, jH, jI, jJ, jK, Nat.reduceAdd] at H
           refine k_nil ?_
           refine t_on trivial ?_
           refine tqh 16 rfl rfl rfl (fun _ hS => r_as (v := .bool _) rfl) trivial ?_
           refine t_done (by kernel_rfl) ?_
           refine c_norm ?_
           refine k_ret ?_
           refine fx2r rfl (rv_a H 2 rfl rfl rfl ag149 sz149) (rv_t (v := .bool _) rfl) ?_
           exact ⟨⟨P, Q, rfl, fun _ => ⟨rfl, rfl⟩⟩, H.only⟩
          ·refine up_mk rfl ?_
           refine s_run rfl (g_on 81 (by kernel_rfl) rfl) (r_la H 1 rfl rfl rfl ag149 sz149) ?_
           refine k_nil ?_
           refine t_on trivial ?_
           refine t_up2 0 12 (by kernel_rfl) ?_ ?_
           ·refine up_mk rfl ?_
            refine s_run rfl rfl (r_la H 1 rfl rfl rfl ag149 sz149) ?_
            refine k_nil ?_
            refine t_on trivial ?_
            refine t_up1 12 (by kernel_rfl) ?_
            refine up_mk rfl ?_
            refine s_call (g_on 81 (by kernel_rfl) rfl) (hBl _) (ca117 rfl) ?_
            rintro e W1 ⟨rfl, H'⟩
            refine ⟨_, rfl, ?_⟩
            have H := H.same H'; clear H'
            refine k_nil ?_
            refine t_on trivial ?_
            refine tqh 13 rfl rfl (g_on 81 (by kernel_rfl) rfl) (fun _ hS => r_eqlF rfl rfl (by omega)) trivial ?_
            refine tqh 14 rfl rfl rfl (fun _ hS => r_pkT (v := .bool _) rfl rfl) trivial ?_
            refine t_up1 15 (by kernel_rfl) ?_
            refine up_mk rfl ?_
            refine s_sw H 2 rfl rfl rfl rfl rfl rfl rfl sz149 ?_
            clear H; intro _ H; simp only [jA, jB, jC, jD, jE, jF, jG, jH, jI, jJ, jK, Nat.reduceAdd] at H
            refine k_nil ?_
            refine t_on trivial ?_
            refine tqh 16 rfl rfl rfl (fun _ hS => r_as (v := .bool _) rfl) trivial ?_
            refine t_done (by kernel_rfl) ?_
            refine c_norm ?_
            refine k_ret ?_
            refine fx2r rfl (rv_a H 2 rfl rfl rfl ag149 sz149) (rv_t (v := .bool _) rfl) ?_
            exact ⟨⟨P, Q, rfl, fun _ => ⟨rfl, rfl⟩⟩, H.only⟩
           ·refine up_mk rfl ?_
            refine s_call (g_on 81 (by kernel_rfl) rfl) (hBl _) (ca117 rfl) ?_
            rintro e W1 ⟨rfl, H'⟩
            refine ⟨_, rfl, ?_⟩
            have H := H.same H'; clear H'
            refine k_nil ?_
            refine t_on trivial ?_
            refine tqh 13 rfl rfl (g_on 81 (by kernel_rfl) rfl) (fun _ hS => r_eqlF rfl rfl (by omega)) trivial ?_
            refine tqh 14 rfl rfl rfl (fun _ hS => r_pkT (v := .bool _) rfl rfl) trivial ?_
            refine t_up1 0 (by kernel_rfl) ?_
            refine up_mk rfl ?_
            refine s_run rfl rfl (r_la H 1 rfl rfl rfl ag149 sz149) ?_
            refine k_nil ?_
            refine t_on trivial ?_
            refine t_up1 15 (by kernel_rfl) ?_
            refine up_mk rfl ?_
            refine s_sw H 2 rfl rfl rfl rfl rfl rfl rfl sz149 ?_
            clear H; intro _ H; simp only [jA, jB, jC, jD, jE, jF, jG, jH, jI, jJ, jK, Nat.reduceAdd] at H
            refine k_nil ?_
            refine t_on trivial ?_
            refine tqh 16 rfl rfl rfl (fun _ hS => r_as (v := .bool _) rfl) trivial ?_
            refine t_done (by kernel_rfl) ?_
            refine c_norm ?_
            refine k_ret ?_
            refine fx2r rfl (rv_a H 2 rfl rfl rfl ag149 sz149) (rv_t (v := .bool _) rfl) ?_
            exact ⟨⟨P, Q, rfl, fun _ => ⟨rfl, rfl⟩⟩, H.only⟩
      ·rw [decide_eq_false hf, Bool.false_and]
       refine k_in (N := 87) Try.func90 rfl rfl rfl ?_
       refine k_sg ?_
       refine s_box H rfl rfl ?_
       intro p5 _ H'; clear H; have H := H'; clear H'
       refine s_al H rfl inf149 ?_
       intro p8 _ H'; clear H; have H := H'; clear H'
       refine s_run rfl rfl (rab rfl) ?_
       refine k_nc ?_
       refine k_sg ?_
       refine s_run rfl rfl (r_la H 1 rfl rfl rfl ag48 sz48) ?_
       refine s_run rfl rfl (rmi rfl) ?_
       refine s_call rfl (hB _) (ca112 rfl) ?_
       rintro e W1 ⟨rfl, H'⟩
       refine ⟨_, rfl, ?_⟩
       have H := H.same H'; clear H'
       refine s_run rfl rfl (rai rfl) ?_
       refine k_nc ?_
       refine k_seq ?_
       refine k_sg ?_
       refine s_run rfl rfl (rmi rfl) ?_
       refine s_run rfl rfl (r_lssF rfl rfl (by omega)) ?_
       refine s_run rfl rfl (rmb rfl) ?_
       refine s_run rfl (g_on 25 (by kernel_rfl) rfl) (rmi rfl) ?_
       refine s_run rfl (g_on 25 (by kernel_rfl) rfl) (rms rfl) ?_
       refine s_run rfl (g_on 25 (by kernel_rfl) rfl) (r_len rfl Try.underlying49) ?_
       refine s_run rfl (g_on 25 (by kernel_rfl) rfl) (r_geqF rfl rfl (by omega)) ?_
       refine s_run rfl rfl (r_pkF (v := .bool _) rfl rfl) ?_
       refine k_nc ?_
       refine k_f rfl ?_
       refine k_skip ?_
       refine c_norm ?_
       refine k_sg ?_
       refine s_run rfl rfl (rmp rfl) ?_
       refine s_run rfl rfl (rmi rfl) ?_
       refine s_call rfl (hHd H.only) (ca91 rfl) ?_
       rintro e W1 ⟨rfl, H'⟩
       refine ⟨_, rfl, ?_⟩
       have H := H.same H'; clear H'
       refine s_run rfl rfl (rmt rfl) ?_
       refine s_run rfl rfl (r_ext (v := .agg _) rfl rfl) ?_
       refine s_run rfl rfl (r_ext (v := .int _ _) rfl rfl) ?_
       refine s_al H rfl inf149 ?_
       intro p11 _ H'; clear H; have H := H'; clear H'
       refine s_sw H 0 rfl rfl rfl rfl rfl rfl rfl sz149 ?_
       clear H; intro _ H; simp only [jA, jB, jC, jD, jE, jF, jG, jH, jI, jJ, jK, Nat.reduceAdd] at H
       refine s_run rfl rfl (rai rfl) ?_
       refine k_nc ?_
       refine k_seq ?_
       refine k_sg ?_
       refine s_run rfl rfl (rmi rfl) ?_
       refine s_run rfl rfl (r_neqF rfl rfl (by omega)) ?_
       refine k_nc ?_
       refine k_f rfl ?_
       refine k_skip ?_
       refine c_norm ?_
       refine k_sg ?_
       refine s_run rfl rfl (rms rfl) ?_
       refine s_run rfl rfl (rmi rfl) ?_
       refine s_run rfl rfl (r_ix (i := b) rfl rfl (by omega) (by omega) Try.underlying49 sz102) ?_
       refine s_run rfl rfl (r_lA (enc := fun v : Value => v) (zs := [.int .i64 h.1, .int .i64 h.2.1, .int .i64 h.2.2]) (hre.later H.only (by simp)) rfl rfl ag102 sz102) ?_
       refine s_al H rfl inf102 ?_
       intro p13 _ H'; clear H; have H := H'; clear H'
       refine s_sw H 0 rfl rfl rfl rfl rfl rfl rfl sz102 ?_
       clear H; intro _ H; simp only [jA, jB, jC, jD, jE, jF, jG, jH, jI, jJ, jK, Nat.reduceAdd] at H
       refine k_nc ?_
       refine k_sg ?_
       refine s_run rfl rfl (r_la H 1 rfl rfl rfl ag149 sz149) ?_
       refine s_call rfl (hSm _) (ca113 rfl) ?_
       rintro e W1 ⟨rfl, H'⟩
       refine ⟨_, rfl, ?_⟩
       have H := H.same H'; clear H'
       refine s_run rfl rfl (rmt rfl) ?_
       refine s_run rfl rfl (r_ext (v := .int _ _) rfl rfl) ?_
       refine s_run rfl rfl (r_ext (v := .bool _) rfl rfl) ?_
       refine s_run rfl rfl (rai rfl) ?_
       refine s_run rfl rfl (rab rfl) ?_
       refine k_nc ?_
       refine k_seq ?_
       refine k_sg ?_
       refine s_run rfl rfl (rmb rfl) ?_
       refine k_nc ?_
       refine k_f rfl ?_
       refine k_skip ?_
       refine c_norm ?_
       refine k_sg ?_
       refine s_run rfl rfl (rms rfl) ?_
       refine s_run rfl rfl (rmi rfl) ?_
       refine s_call rfl (hWh H.only) (ca115 rfl) ?_
       rintro e W1 ⟨rfl, H'⟩
       refine ⟨_, rfl, ?_⟩
       have H := H.same H'; clear H'
       refine s_run rfl rfl (rmt rfl) ?_
       refine s_run rfl rfl (r_ext (v := .int _ _) rfl rfl) ?_
       refine s_run rfl rfl (r_ext (v := .bool _) rfl rfl) ?_
       refine s_run rfl rfl (rai rfl) ?_
       refine s_run rfl rfl (rab rfl) ?_
       refine k_nc ?_
       refine k_seq ?_
       refine k_trF mixed ?_; have H' := H.drew; clear H; have H := H'; clear H'
       refine tqh 1 rfl rfl rfl (fun _ hS => r_mv (v := .bool _) rfl) trivial ?_
       refine tqh 2 rfl rfl rfl (fun _ hS => r_mv (v := .bool _) rfl) trivial ?_
       refine tqh 3 rfl rfl (g_on 74 (by kernel_rfl) rfl) (fun _ hS => r_mv (v := .int _ _) rfl) trivial ?_
       refine tqh 5 rfl rfl (g_on 74 (by kernel_rfl) rfl) (fun _ hS => r_mv (v := .int _ _) rfl) trivial ?_
       refine t_up2 0 4 (by kernel_rfl) ?_ ?_
       ·refine up_mk rfl ?_
        refine s_run rfl rfl (r_la H 1 rfl rfl rfl ag149 sz149) ?_
        refine k_nil ?_
        refine t_on trivial ?_
        refine t_up1 4 (by kernel_rfl) ?_
        refine up_mk rfl ?_
        refine s_run rfl (g_on 74 (by kernel_rfl) rfl) (r_la H 3 rfl rfl rfl ag48 sz48) ?_
        refine k_nil ?_
        refine t_on trivial ?_
        refine t_up1 6 (by kernel_rfl) ?_
        refine up_mk rfl ?_
        refine s_call (g_on 74 (by kernel_rfl) rfl) (hFi _) (ca116 rfl) ?_
        rintro e W1 ⟨rfl, H'⟩
        refine ⟨_, rfl, ?_⟩
        have H := H.same H'; clear H'
        refine k_nil ?_
        refine t_on trivial ?_
        refine tqh 7 rfl rfl (g_on 74 (by kernel_rfl) rfl) (fun _ hS => r_eqlF rfl rfl (by omega)) trivial ?_
        refine tqh 8 rfl rfl rfl (fun _ hS => r_pkT (v := .bool _) rfl rfl) trivial ?_
        refine tqh 9 rfl rfl rfl (fun _ hS => r_mv (v := .bool _) rfl) trivial ?_
        refine toh 10 rfl rfl (g_off 81 (by kernel_rfl) rfl rfl) trivial ?_
        refine toh 11 rfl rfl (g_off 81 (by kernel_rfl) rfl rfl) trivial ?_
        refine toh 12 rfl rfl (g_off 81 (by kernel_rfl) rfl rfl) trivial ?_
        refine toh 13 rfl rfl (g_off 81 (by kernel_rfl) rfl rfl) trivial ?_
        refine tqh 14 rfl rfl rfl (fun _ hS => r_pkF (v := .bool _) rfl rfl) trivial ?_
        refine t_up1 15 (by kernel_rfl) ?_
        refine up_mk rfl ?_
        refine s_sw H 2 rfl rfl rfl rfl rfl rfl rfl sz149 ?_
        clear H; intro _ H; simp only [jA, jB, jC, jD, jE, jF, jG, jH, jI, jJ, jK, Nat.reduceAdd] at H
        refine k_nil ?_
        refine t_on trivial ?_
        refine tqh 16 rfl rfl rfl (fun _ hS => r_as (v := .bool _) rfl) trivial ?_
        refine t_done (by kernel_rfl) ?_
        refine c_norm ?_
        refine k_ret ?_
        refine fx2r rfl (rv_a H 2 rfl rfl rfl ag149 sz149) (rv_t (v := .bool _) rfl) ?_
        exact ⟨⟨P, Q, rfl, fun _ => ⟨rfl, rfl⟩⟩, H.only⟩
       ·refine up_mk rfl ?_
        refine s_run rfl (g_on 74 (by kernel_rfl) rfl) (r_la H 3 rfl rfl rfl ag48 sz48) ?_
        refine k_nil ?_
        refine t_on trivial ?_
        refine t_up2 0 6 (by kernel_rfl) ?_ ?_
        ·refine up_mk rfl ?_
         refine s_run rfl rfl (r_la H 1 rfl rfl rfl ag149 sz149) ?_
         refine k_nil ?_
         refine t_on trivial ?_
         refine t_up1 6 (by kernel_rfl) ?_
         refine up_mk rfl ?_
         refine s_call (g_on 74 (by kernel_rfl) rfl) (hFi _) (ca116 rfl) ?_
         rintro e W1 ⟨rfl, H'⟩
         refine ⟨_, rfl, ?_⟩
         have H := H.same H'; clear H'
         refine k_nil ?_
         refine t_on trivial ?_
         refine tqh 7 rfl rfl (g_on 74 (by kernel_rfl) rfl) (fun _ hS => r_eqlF rfl rfl (by omega)) trivial ?_
         refine tqh 8 rfl rfl rfl (fun _ hS => r_pkT (v := .bool _) rfl rfl) trivial ?_
         refine tqh 9 rfl rfl rfl (fun _ hS => r_mv (v := .bool _) rfl) trivial ?_
         refine toh 10 rfl rfl (g_off 81 (by kernel_rfl) rfl rfl) trivial ?_
         refine toh 11 rfl rfl (g_off 81 (by kernel_rfl) rfl rfl) trivial ?_
         refine toh 12 rfl rfl (g_off 81 (by kernel_rfl) rfl rfl) trivial ?_
         refine toh 13 rfl rfl (g_off 81 (by kernel_rfl) rfl rfl) trivial ?_
         refine tqh 14 rfl rfl rfl (fun _ hS => r_pkF (v := .bool _) rfl rfl) trivial ?_
         refine t_up1 15 (by kernel_rfl) ?_
         refine up_mk rfl ?_
         refine s_sw H 2 rfl rfl rfl rfl rfl rfl rfl sz149 ?_
         clear H; intro _ H; simp only [jA, jB, jC, jD, jE, jF, jG, jH, jI, jJ, jK, Nat.reduceAdd] at H
         refine k_nil ?_
         refine t_on trivial ?_
         refine tqh 16 rfl rfl rfl (fun _ hS => r_as (v := .bool _) rfl) trivial ?_
         refine t_done (by kernel_rfl) ?_
         refine c_norm ?_
         refine k_ret ?_
         refine fx2r rfl (rv_a H 2 rfl rfl rfl ag149 sz149) (rv_t (v := .bool _) rfl) ?_
         exact ⟨⟨P, Q, rfl, fun _ => ⟨rfl, rfl⟩⟩, H.only⟩
        ·refine up_mk rfl ?_
         refine s_call (g_on 74 (by kernel_rfl) rfl) (hFi _) (ca116 rfl) ?_
         rintro e W1 ⟨rfl, H'⟩
         refine ⟨_, rfl, ?_⟩
         have H := H.same H'; clear H'
         refine k_nil ?_
         refine t_on trivial ?_
         refine tqh 7 rfl rfl (g_on 74 (by kernel_rfl) rfl) (fun _ hS => r_eqlF rfl rfl (by omega)) trivial ?_
         refine tqh 8 rfl rfl rfl (fun _ hS => r_pkT (v := .bool _) rfl rfl) trivial ?_
         refine tqh 9 rfl rfl rfl (fun _ hS => r_mv (v := .bool _) rfl) trivial ?_
         refine toh 10 rfl rfl (g_off 81 (by kernel_rfl) rfl rfl) trivial ?_
         refine toh 11 rfl rfl (g_off 81 (by kernel_rfl) rfl rfl) trivial ?_
         refine toh 12 rfl rfl (g_off 81 (by kernel_rfl) rfl rfl) trivial ?_
         refine toh 13 rfl rfl (g_off 81 (by kernel_rfl) rfl rfl) trivial ?_
         refine tqh 14 rfl rfl rfl (fun _ hS => r_pkF (v := .bool _) rfl rfl) trivial ?_
         refine t_up1 0 (by kernel_rfl) ?_
         refine up_mk rfl ?_
         refine s_run rfl rfl (r_la H 1 rfl rfl rfl ag149 sz149) ?_
         refine k_nil ?_
         refine t_on trivial ?_
         refine t_up1 15 (by kernel_rfl) ?_
         refine up_mk rfl ?_
         refine s_sw H 2 rfl rfl rfl rfl rfl rfl rfl sz149 ?_
         clear H; intro _ H; simp only [jA, jB, jC, jD, jE, jF, jG, jH, jI, jJ, jK, Nat.reduceAdd] at H
         refine k_nil ?_
         refine t_on trivial ?_
         refine tqh 16 rfl rfl rfl (fun _ hS => r_as (v := .bool _) rfl) trivial ?_
         refine t_done (by kernel_rfl) ?_
         refine c_norm ?_
         refine k_ret ?_
         refine fx2r rfl (rv_a H 2 rfl rfl rfl ag149 sz149) (rv_t (v := .bool _) rfl) ?_
         exact ⟨⟨P, Q, rfl, fun _ => ⟨rfl, rfl⟩⟩, H.only⟩
     | false =>
      rw [hwh] at hWh
      rw [Bool.false_and]
      refine k_in (N := 87) Try.func90 rfl rfl rfl ?_
      refine k_sg ?_
      refine s_box H rfl rfl ?_
      intro p5 _ H'; clear H; have H := H'; clear H'
      refine s_al H rfl inf149 ?_
      intro p8 _ H'; clear H; have H := H'; clear H'
      refine s_run rfl rfl (rab rfl) ?_
      refine k_nc ?_
      refine k_sg ?_
      refine s_run rfl rfl (r_la H 1 rfl rfl rfl ag48 sz48) ?_
      refine s_run rfl rfl (rmi rfl) ?_
      refine s_call rfl (hB _) (ca112 rfl) ?_
      rintro e W1 ⟨rfl, H'⟩
      refine ⟨_, rfl, ?_⟩
      have H := H.same H'; clear H'
      refine s_run rfl rfl (rai rfl) ?_
      refine k_nc ?_
      refine k_seq ?_
      refine k_sg ?_
      refine s_run rfl rfl (rmi rfl) ?_
      refine s_run rfl rfl (r_lssF rfl rfl (by omega)) ?_
      refine s_run rfl rfl (rmb rfl) ?_
      refine s_run rfl (g_on 25 (by kernel_rfl) rfl) (rmi rfl) ?_
      refine s_run rfl (g_on 25 (by kernel_rfl) rfl) (rms rfl) ?_
      refine s_run rfl (g_on 25 (by kernel_rfl) rfl) (r_len rfl Try.underlying49) ?_
      refine s_run rfl (g_on 25 (by kernel_rfl) rfl) (r_geqF rfl rfl (by omega)) ?_
      refine s_run rfl rfl (r_pkF (v := .bool _) rfl rfl) ?_
      refine k_nc ?_
      refine k_f rfl ?_
      refine k_skip ?_
      refine c_norm ?_
      refine k_sg ?_
      refine s_run rfl rfl (rmp rfl) ?_
      refine s_run rfl rfl (rmi rfl) ?_
      refine s_call rfl (hHd H.only) (ca91 rfl) ?_
      rintro e W1 ⟨rfl, H'⟩
      refine ⟨_, rfl, ?_⟩
      have H := H.same H'; clear H'
      refine s_run rfl rfl (rmt rfl) ?_
      refine s_run rfl rfl (r_ext (v := .agg _) rfl rfl) ?_
      refine s_run rfl rfl (r_ext (v := .int _ _) rfl rfl) ?_
      refine s_al H rfl inf149 ?_
      intro p11 _ H'; clear H; have H := H'; clear H'
      refine s_sw H 0 rfl rfl rfl rfl rfl rfl rfl sz149 ?_
      clear H; intro _ H; simp only [jA, jB, jC, jD, jE, jF, jG, jH, jI, jJ, jK, Nat.reduceAdd] at H
      refine s_run rfl rfl (rai rfl) ?_
      refine k_nc ?_
      refine k_seq ?_
      refine k_sg ?_
      refine s_run rfl rfl (rmi rfl) ?_
      refine s_run rfl rfl (r_neqF rfl rfl (by omega)) ?_
      refine k_nc ?_
      refine k_f rfl ?_
      refine k_skip ?_
      refine c_norm ?_
      refine k_sg ?_
      refine s_run rfl rfl (rms rfl) ?_
      refine s_run rfl rfl (rmi rfl) ?_
      refine s_run rfl rfl (r_ix (i := b) rfl rfl (by omega) (by omega) Try.underlying49 sz102) ?_
      refine s_run rfl rfl (r_lA (enc := fun v : Value => v) (zs := [.int .i64 h.1, .int .i64 h.2.1, .int .i64 h.2.2]) (hre.later H.only (by simp)) rfl rfl ag102 sz102) ?_
      refine s_al H rfl inf102 ?_
      intro p13 _ H'; clear H; have H := H'; clear H'
      refine s_sw H 0 rfl rfl rfl rfl rfl rfl rfl sz102 ?_
      clear H; intro _ H; simp only [jA, jB, jC, jD, jE, jF, jG, jH, jI, jJ, jK, Nat.reduceAdd] at H
      refine k_nc ?_
      refine k_sg ?_
      refine s_run rfl rfl (r_la H 1 rfl rfl rfl ag149 sz149) ?_
      refine s_call rfl (hSm _) (ca113 rfl) ?_
      rintro e W1 ⟨rfl, H'⟩
      refine ⟨_, rfl, ?_⟩
      have H := H.same H'; clear H'
      refine s_run rfl rfl (rmt rfl) ?_
      refine s_run rfl rfl (r_ext (v := .int _ _) rfl rfl) ?_
      refine s_run rfl rfl (r_ext (v := .bool _) rfl rfl) ?_
      refine s_run rfl rfl (rai rfl) ?_
      refine s_run rfl rfl (rab rfl) ?_
      refine k_nc ?_
      refine k_seq ?_
      refine k_sg ?_
      refine s_run rfl rfl (rmb rfl) ?_
      refine k_nc ?_
      refine k_f rfl ?_
      refine k_skip ?_
      refine c_norm ?_
      refine k_sg ?_
      refine s_run rfl rfl (rms rfl) ?_
      refine s_run rfl rfl (rmi rfl) ?_
      refine s_call rfl (hWh H.only) (ca115 rfl) ?_
      rintro e W1 ⟨rfl, H'⟩
      refine ⟨_, rfl, ?_⟩
      have H := H.same H'; clear H'
      refine s_run rfl rfl (rmt rfl) ?_
      refine s_run rfl rfl (r_ext (v := .int _ _) rfl rfl) ?_
      refine s_run rfl rfl (r_ext (v := .bool _) rfl rfl) ?_
      refine s_run rfl rfl (rai rfl) ?_
      refine s_run rfl rfl (rab rfl) ?_
      refine k_nc ?_
      refine k_seq ?_
      refine k_trF mixed ?_; have H' := H.drew; clear H; have H := H'; clear H'
      refine tqh 1 rfl rfl rfl (fun _ hS => r_mv (v := .bool _) rfl) trivial ?_
      refine tqh 2 rfl rfl rfl (fun _ hS => r_mv (v := .bool _) rfl) trivial ?_
      refine toh 3 rfl rfl (g_off 74 (by kernel_rfl) rfl rfl) trivial ?_
      refine toh 4 rfl rfl (g_off 74 (by kernel_rfl) rfl rfl) trivial ?_
      refine toh 5 rfl rfl (g_off 74 (by kernel_rfl) rfl rfl) trivial ?_
      refine toh 6 rfl rfl (g_off 74 (by kernel_rfl) rfl rfl) trivial ?_
      refine toh 7 rfl rfl (g_off 74 (by kernel_rfl) rfl rfl) trivial ?_
      refine tqh 8 rfl rfl rfl (fun _ hS => r_pkF (v := .bool _) rfl rfl) trivial ?_
      refine tqh 9 rfl rfl rfl (fun _ hS => r_mv (v := .bool _) rfl) trivial ?_
      refine toh 10 rfl rfl (g_off 81 (by kernel_rfl) rfl rfl) trivial ?_
      refine toh 11 rfl rfl (g_off 81 (by kernel_rfl) rfl rfl) trivial ?_
      refine toh 12 rfl rfl (g_off 81 (by kernel_rfl) rfl rfl) trivial ?_
      refine toh 13 rfl rfl (g_off 81 (by kernel_rfl) rfl rfl) trivial ?_
      refine tqh 14 rfl rfl rfl (fun _ hS => r_pkF (v := .bool _) rfl rfl) trivial ?_
      refine t_up1 0 (by kernel_rfl) ?_
      refine up_mk rfl ?_
      refine s_run rfl rfl (r_la H 1 rfl rfl rfl ag149 sz149) ?_
      refine k_nil ?_
      refine t_on trivial ?_
      refine t_up1 15 (by kernel_rfl) ?_
      refine up_mk rfl ?_
      refine s_sw H 2 rfl rfl rfl rfl rfl rfl rfl sz149 ?_
      clear H; intro _ H; simp only [jA, jB, jC, jD, jE, jF, jG, jH, jI, jJ, jK, Nat.reduceAdd] at H
      refine k_nil ?_
      refine t_on trivial ?_
      refine tqh 16 rfl rfl rfl (fun _ hS => r_as (v := .bool _) rfl) trivial ?_
      refine t_done (by kernel_rfl) ?_
      refine c_norm ?_
      refine k_ret ?_
      refine fx2r rfl (rv_a H 2 rfl rfl rfl ag149 sz149) (rv_t (v := .bool _) rfl) ?_
      exact ⟨⟨P, Q, rfl, fun _ => ⟨rfl, rfl⟩⟩, H.only⟩
  ·have hp : Ob.pl n d.cache hs a = false := by unfold Ob.pl; rw [hb, Int.toNat_natCast, List.getElem?_eq_none (by omega)]; simp
   rw [hp]
   refine k_in (N := 87) Try.func90 rfl rfl rfl ?_
   refine k_sg ?_
   refine s_box H rfl rfl ?_
   intro p5 _ H'; clear H; have H := H'; clear H'
   refine s_al H rfl inf149 ?_
   intro p8 _ H'; clear H; have H := H'; clear H'
   refine s_run rfl rfl (rab rfl) ?_
   refine k_nc ?_
   refine k_sg ?_
   refine s_run rfl rfl (r_la H 1 rfl rfl rfl ag48 sz48) ?_
   refine s_run rfl rfl (rmi rfl) ?_
   refine s_call rfl (hB _) (ca112 rfl) ?_
   rintro e W1 ⟨rfl, H'⟩
   refine ⟨_, rfl, ?_⟩
   have H := H.same H'; clear H'
   refine s_run rfl rfl (rai rfl) ?_
   refine k_nc ?_
   refine k_seq ?_
   refine k_sg ?_
   refine s_run rfl rfl (rmi rfl) ?_
   refine s_run rfl rfl (r_lssF rfl rfl (by omega)) ?_
   refine s_run rfl rfl (rmb rfl) ?_
   refine s_run rfl (g_on 25 (by kernel_rfl) rfl) (rmi rfl) ?_
   refine s_run rfl (g_on 25 (by kernel_rfl) rfl) (rms rfl) ?_
   refine s_run rfl (g_on 25 (by kernel_rfl) rfl) (r_len rfl Try.underlying49) ?_
   refine s_run rfl (g_on 25 (by kernel_rfl) rfl) (r_geqT rfl rfl (by omega)) ?_
   refine s_run rfl rfl (r_pkF (v := .bool _) rfl rfl) ?_
   refine k_nc ?_
   refine k_t rfl ?_
   refine k_sg ?_
   refine s_run rfl rfl (r_bd (bd149 ) rfl) ?_
   refine s_sw H 0 rfl rfl rfl rfl rfl rfl rfl sz149 ?_
   clear H; intro _ H; simp only [jA, jB, jC, jD, jE, jF, jG, jH, jI, jJ, jK, Nat.reduceAdd] at H
   refine s_run rfl rfl (rab rfl) ?_
   refine k_nc ?_
   refine k_ret ?_
   refine c_ret ?_
   refine fx2r rfl (rv_a H 0 rfl rfl rfl ag149 sz149) (rv_t (v := .bool _) rfl) ?_
   exact ⟨⟨0, 0, rfl, fun h => by cases h⟩, H.only⟩
 ·have hp : Ob.pl n d.cache hs a = false := by unfold Ob.pl; rw [decide_eq_false hin]; rfl
  have hbo : blockOf n a < 1 := by unfold blockOf; split <;> omega
  rw [hp]
  generalize blockOf n a = bb at *
  refine k_in (N := 87) Try.func90 rfl rfl rfl ?_
  refine k_sg ?_
  refine s_box H rfl rfl ?_
  intro p5 _ H'; clear H; have H := H'; clear H'
  refine s_al H rfl inf149 ?_
  intro p8 _ H'; clear H; have H := H'; clear H'
  refine s_run rfl rfl (rab rfl) ?_
  refine k_nc ?_
  refine k_sg ?_
  refine s_run rfl rfl (r_la H 1 rfl rfl rfl ag48 sz48) ?_
  refine s_run rfl rfl (rmi rfl) ?_
  refine s_call rfl (hB _) (ca112 rfl) ?_
  rintro e W1 ⟨rfl, H'⟩
  refine ⟨_, rfl, ?_⟩
  have H := H.same H'; clear H'
  refine s_run rfl rfl (rai rfl) ?_
  refine k_nc ?_
  refine k_seq ?_
  refine k_sg ?_
  refine s_run rfl rfl (rmi rfl) ?_
  refine s_run rfl rfl (r_lssT rfl rfl (by omega)) ?_
  refine s_run rfl rfl (rmb rfl) ?_
  refine s_off rfl (g_off 25 (by kernel_rfl) rfl rfl) ?_
  refine s_off rfl (g_off 25 (by kernel_rfl) rfl rfl) ?_
  refine s_off rfl (g_off 25 (by kernel_rfl) rfl rfl) ?_
  refine s_off rfl (g_off 25 (by kernel_rfl) rfl rfl) ?_
  refine s_run rfl rfl (r_pkT (v := .bool _) rfl rfl) ?_
  refine k_nc ?_
  refine k_t rfl ?_
  refine k_sg ?_
  refine s_run rfl rfl (r_bd (bd149 ) rfl) ?_
  refine s_sw H 0 rfl rfl rfl rfl rfl rfl rfl sz149 ?_
  clear H; intro _ H; simp only [jA, jB, jC, jD, jE, jF, jG, jH, jI, jJ, jK, Nat.reduceAdd] at H
  refine s_run rfl rfl (rab rfl) ?_
  refine k_nc ?_
  refine k_ret ?_
  refine c_ret ?_
  refine fx2r rfl (rv_a H 0 rfl rfl rfl ag149 sz149) (rv_t (v := .bool _) rfl) ?_
  exact ⟨⟨0, 0, rfl, fun h => by cases h⟩, H.only⟩
end Go.Proofs.Ytlakbclnilakbaa
end

section
namespace Go.Proofs.Ytlakbclnilakbaa.Tr
structure S where
 seen : List Int
 op : List Int
 bad : List ((Int × Int) × Int)
def s0 : S := ⟨[], [], []⟩
def reach (P : Int → Bool) (s : S) (e : Int × Int) (a : Int) : S :=
 if a = 0 ∨ a ∈ s.seen then s else if P a = true then ⟨s.seen ++ [a], s.op ++ [a], s.bad⟩ else ⟨s.seen, s.op, mput s.bad e a⟩
def code (P : Int → Bool) (s : S) (a : Int) : Int := if a = 0 ∨ a ∈ s.seen then 0 else if P a = true then 0 else 22
def along (P : Int → Bool) (s : S) (y : Int) (l : List Int) : Nat → S
 | 0 => s
 | i + 1 => reach P (along P s y l i) (y, (i : Int)) (l.getD i 0)
def top (s : S) : Int := s.op.getD (s.op.length - 1) 0
def pop (s : S) : S := ⟨s.seen, s.op.take (s.op.length - 1), s.bad⟩
def step (P : Int → Bool) (pt : Int → List Int) (s : S) : S := along P (pop s) (top s) (pt (top s)) (pt (top s)).length
def steps (P : Int → Bool) (pt : Int → List Int) (s : S) : Nat → S
 | 0 => s
 | k + 1 => step P pt (steps P pt s k)
def rootsTo (P : Int → Bool) (s : S) (l : List Int) : Nat → S
 | 0 => s
 | i + 1 => reach P (rootsTo P s l i) (-1, 0) (l.getD i 0)
/-- what holds of a tracer: what is seen is placed and each once; what is open is seen, each once -/
structure Ok (P : Int → Bool) (s : S) : Prop where
 nd : s.seen.Nodup
 pl : ∀ x ∈ s.seen, P x = true
 sub : ∀ x ∈ s.op, x ∈ s.seen
 ondup : s.op.Nodup
 bnd : (s.bad.map Prod.fst).Nodup
theorem ok0 (P : Int → Bool) : Ok P s0 := ⟨by simp [s0], by simp [s0], by simp [s0], by simp [s0], by simp [s0]⟩
theorem mput_nd {α β : Type} [DecidableEq α] : ∀ (l : List (α × β)) (a : α) (v : β), (l.map Prod.fst).Nodup → ((mput l a v).map Prod.fst).Nodup ∧ ∀ z, z ∈ (mput l a v).map Prod.fst ↔ z = a ∨ z ∈ l.map Prod.fst
 | [], a, v, _ => by simp [mput]
 | p :: l, a, v, h => by
  simp only [List.map_cons, List.nodup_cons] at h
  obtain ⟨h1, h2⟩ := mput_nd l a v h.2
  unfold mput
  split
  ·rename_i e
   subst e
   refine ⟨by simpa using h, fun z => ?_⟩
   simp
  ·rename_i e
   simp only [List.map_cons, List.nodup_cons, List.mem_cons]
   refine ⟨⟨fun hm => ?_, h1⟩, fun z => ?_⟩
   ·rcases (h2 _).1 hm with h3 | h3
    ·exact e h3
    ·exact h.1 h3
   ·rw [h2 z]
    constructor
    ·rintro (h3 | h3 | h3)
     ·exact .inr (.inl h3)
     ·exact .inl h3
     ·exact .inr (.inr h3)
    ·rintro (h3 | h3 | h3)
     ·exact .inr (.inl h3)
     ·exact .inl h3
     ·exact .inr (.inr h3)
theorem mput_len {α β : Type} [DecidableEq α] : ∀ (l : List (α × β)) (a : α) (v : β), (mput l a v).length ≤ l.length + 1 ∧ 0 < (mput l a v).length
 | [], a, v => by simp [mput]
 | p :: l, a, v => by
  have := mput_len l a v
  unfold mput
  split
  ·simp
  ·simp; omega
theorem Ok.reach {P : Int → Bool} {s : S} (h : Ok P s) (e : Int × Int) (a : Int) : Ok P (reach P s e a) := by
 unfold Tr.reach
 split
 ·exact h
 ·rename_i ha
  have ha2 : a ∉ s.seen := fun hm => ha (.inr hm)
  split
  ·rename_i hp
   refine ⟨?_, fun x hx => ?_, fun x hx => ?_, ?_, h.bnd⟩
   ·rw [List.nodup_append]; exact ⟨h.nd, by simp, fun x hx y hy e => ha2 (by rw [List.mem_singleton.1 hy] at e; rw [← e]; exact hx)⟩
   ·rcases List.mem_append.1 hx with h1 | h1
    ·exact h.pl x h1
    ·rw [List.mem_singleton.1 h1]; exact hp
   ·rcases List.mem_append.1 hx with h1 | h1
    ·exact List.mem_append_left _ (h.sub x h1)
    ·exact List.mem_append_right _ h1
   ·show (s.op ++ [a]).Nodup
    rw [List.nodup_append]; exact ⟨h.ondup, by simp, fun x hx y hy e => ha2 (by rw [List.mem_singleton.1 hy] at e; rw [← e]; exact h.sub x hx)⟩
  ·exact ⟨h.nd, h.pl, h.sub, h.ondup, (mput_nd s.bad e a h.bnd).1⟩
theorem Ok.along {P : Int → Bool} {s : S} (h : Ok P s) (y : Int) (l : List Int) : ∀ k, Ok P (along P s y l k)
 | 0 => h
 | k + 1 => (Ok.along h y l k).reach _ _
theorem Ok.pop {P : Int → Bool} {s : S} (h : Ok P s) : Ok P (pop s) :=
 ⟨h.nd, h.pl, fun x hx => h.sub x (List.mem_of_mem_take hx), h.ondup.sublist (List.take_sublist _ _), h.bnd⟩
theorem Ok.step {P : Int → Bool} {pt : Int → List Int} {s : S} (h : Ok P s) : Ok P (step P pt s) := h.pop.along _ _ _
theorem Ok.steps {P : Int → Bool} {pt : Int → List Int} {s : S} (h : Ok P s) : ∀ k, Ok P (steps P pt s k)
 | 0 => h
 | k + 1 => (Ok.steps h k).step
theorem Ok.rootsTo {P : Int → Bool} {s : S} (h : Ok P s) (l : List Int) : ∀ k, Ok P (rootsTo P s l k)
 | 0 => h
 | k + 1 => (Ok.rootsTo h l k).reach _ _
/-- as many are seen as are open, and some -/
theorem reach_len (P : Int → Bool) (s : S) (e : Int × Int) (a : Int) (k : Nat) (h : s.seen.length = s.op.length + k) : (reach P s e a).seen.length = (reach P s e a).op.length + k := by
 unfold reach; split
 ·exact h
 ·split
  ·simp; omega
  ·exact h
theorem along_len (P : Int → Bool) (s : S) (y : Int) (l : List Int) (k : Nat) (h : s.seen.length = s.op.length + k) : ∀ i, (along P s y l i).seen.length = (along P s y l i).op.length + k
 | 0 => h
 | i + 1 => reach_len _ _ _ _ _ (along_len P s y l k h i)
theorem step_len (P : Int → Bool) (pt : Int → List Int) (s : S) (k : Nat) (h : s.seen.length = s.op.length + k) (h0 : s.op ≠ []) : (step P pt s).seen.length = (step P pt s).op.length + (k + 1) := by
 refine along_len P _ _ _ (k + 1) ?_ _
 have := List.length_pos_iff.2 h0
 show s.seen.length = (s.op.take (s.op.length - 1)).length + (k + 1)
 rw [List.length_take]; omega
theorem rootsTo_len (P : Int → Bool) (l : List Int) : ∀ k, (rootsTo P s0 l k).seen.length = (rootsTo P s0 l k).op.length + 0
 | 0 => rfl
 | k + 1 => reach_len _ _ _ _ _ (rootsTo_len P l k)
/-- what is seen stays so -/
theorem reach_sub (P : Int → Bool) (s : S) (e : Int × Int) (a : Int) : ∀ x ∈ s.seen, x ∈ (reach P s e a).seen := fun x hx => by
 unfold reach; split
 ·exact hx
 ·split
  ·exact List.mem_append_left _ hx
  ·exact hx
theorem along_sub (P : Int → Bool) (s : S) (y : Int) (l : List Int) : ∀ i, ∀ x ∈ s.seen, x ∈ (along P s y l i).seen
 | 0, x, hx => hx
 | i + 1, x, hx => reach_sub _ _ _ _ x (along_sub P s y l i x hx)
theorem step_sub (P : Int → Bool) (pt : Int → List Int) (s : S) : ∀ x ∈ s.seen, x ∈ (step P pt s).seen := fun x hx => along_sub P (pop s) _ _ _ x hx
theorem steps_sub (P : Int → Bool) (pt : Int → List Int) (s : S) (k : Nat) : ∀ j, ∀ x ∈ (steps P pt s k).seen, x ∈ (steps P pt s (k + j)).seen
 | 0, x, hx => hx
 | j + 1, x, hx => step_sub _ _ _ x (steps_sub P pt s k j x hx)
theorem steps_len (P : Int → Bool) (pt : Int → List Int) (s : S) (h : s.seen.length = s.op.length + 0) : ∀ k, (∀ j, j < k → (steps P pt s j).op ≠ []) → (steps P pt s k).seen.length = (steps P pt s k).op.length + k
 | 0, _ => h
 | k + 1, ho => step_len P pt _ k (steps_len P pt s h k fun j hj => ho j (by omega)) (ho k (by omega))
theorem reach_bad (P : Int → Bool) (s : S) (e : Int × Int) (a : Int) : (reach P s e a).bad.length ≤ s.bad.length + 1 ∧ ((reach P s e a).bad = [] → s.bad = [] ∧ (a = 0 ∨ a ∈ (reach P s e a).seen)) ∧ (code P s a = 0 → a = 0 ∨ a ∈ (reach P s e a).seen) := by
 have hl := mput_len s.bad e a
 unfold reach code; split
 ·rename_i h
  exact ⟨by omega, fun h2 => ⟨h2, h⟩, fun _ => h⟩
 ·split
  ·exact ⟨Nat.le_succ _, fun h2 => ⟨h2, .inr (by simp)⟩, fun _ => .inr (by simp)⟩
  ·exact ⟨hl.1, fun h2 => by have : mput s.bad e a = [] := h2; rw [this] at hl; simp at hl, fun h => by cases h⟩
/-- a row of numbers, each once, within bounds, is no longer than these -/
theorem nd_bound : ∀ (N : Nat) (l : List Int), l.Nodup → (∀ x ∈ l, 0 ≤ x ∧ x < (N : Int)) → l.length ≤ N
 | 0, [], _, _ => Nat.le_refl _
 | 0, x :: l, _, h => by have := h x (by simp); omega
 | N + 1, l, hn, h => by
  by_cases hm : (N : Int) ∈ l
  ·have h1 := nd_bound N (l.erase (N : Int)) (hn.erase _) (fun x hx => by
    have h2 := h x (List.mem_of_mem_erase hx)
    have h3 : x ≠ (N : Int) := fun e => by subst e; exact (List.Nodup.not_mem_erase hn) hx
    omega)
   rw [List.length_erase_of_mem hm] at h1
   omega
  ·have h1 := nd_bound N l hn (fun x hx => by
    have h2 := h x hx
    have h3 : x ≠ (N : Int) := fun e => hm (by rw [← e]; exact hx)
    omega)
   omega
end Go.Proofs.Ytlakbclnilakbaa.Tr
end

section
namespace Go.Proofs.Ytlakbclnilakbaa
theorem keyOf_pairS {P : Program} {k e0 e1 : TypeId} {q0 q1 : IntKind} (hu : P.underlying k = some (.struct (P.fieldsOf k))) (hf : (P.fieldsOf k).toList.map (fun f => (f.name != "_", f.type, f.offset)) = [(true, e0, 0), (true, e1, 1)]) (h0 : P.underlying e0 = some (.int q0)) (h1 : P.underlying e1 = some (.int q1))
  (hc : P.cellsOf k = 2) (c0 : P.cellsOf e0 = 1) (c1 : P.cellsOf e1 = 1) (hkt : P.keyType k = true) (hsz : ∃ m, P.types.size = m + 1) {a b : Int} (wa : (Lit.int q0 a).wf = true) (wb : (Lit.int q1 b).wf = true) :
  ∃ l, keyOf P k (.agg [.int q0 a, .int q1 b].toArray) = some l := by
 obtain ⟨m, hm⟩ := hsz
 unfold keyOf
 generalize P.fieldsOf k = fs at hu hf
 simp only [hu]
 rw [if_pos (by simp [hkt, Value.formed, hu, hc]), hm]
 obtain ⟨l⟩ := fs
 simp only at hf
 obtain ⟨f1, f2, rfl⟩ : ∃ f1 f2, l = [f1, f2] := by
  have := congrArg List.length hf
  simp only [List.length_map, List.length_cons, List.length_nil] at this
  rcases l with _ | ⟨f1, _ | ⟨f2, _ | ⟨f3, l⟩⟩⟩
  ·simp at this
  ·simp at this
  ·exact ⟨f1, f2, rfl⟩
  ·simp at this
 simp only [List.map_cons, List.map_nil, List.cons.injEq, Prod.mk.injEq, and_true, bne_iff_ne] at hf
 obtain ⟨⟨n1, rfl, o1⟩, n2, rfl, o2⟩ := hf
 unfold Program.keyLits
 simp only [hu, Value.cells]
 rw [if_pos ⟨by rw [hc]; rfl, by simp [n1, n2]⟩]
 simp [List.mapM_cons, o1, o2, c0, c1, Program.keyLits, h0, h1, wa, wb]
theorem agg2_inj {k0 k1 : IntKind} {a b : Int × Int} (h : Value.agg [.int k0 a.1, .int k1 a.2].toArray = Value.agg [.int k0 b.1, .int k1 b.2].toArray) : a = b := by
 obtain ⟨a1, a2⟩ := a
 obtain ⟨b1, b2⟩ := b
 simp at h
 simp [h.1, h.2]
end Go.Proofs.Ytlakbclnilakbaa
end

section
namespace Go.Proofs.Ytlakbclnilakbaa
open Go.RowKit
set_option maxRecDepth 100000
set_option maxHeartbeats 4000000
def i64ok (a : Int) : Prop := -9223372036854775808 ≤ a ∧ a ≤ 9223372036854775807
theorem laidT : laidOutB Try.prog = true := by kernel_rfl
theorem keyedE : Go.Maps.Keyed Try.prog 113 := Go.Maps.Keyed.of_law (deep_law_laid laidT (m := 2) (by omega) (of_decide_eq_true (by kernel_rfl)) (by kernel_rfl) (by rw [Try.underlying113]))
def kE : KC Try.prog 113 (Int × Int) :=
 ⟨fun a => .agg [.int .i64 a.1, .int .i64 a.2].toArray, fun a => i64ok a.1 ∧ i64ok a.2, keyedE, fun a ha => keyOf_pairS (by kernel_rfl) (by kernel_rfl) Try.underlying3 Try.underlying3 (by kernel_rfl) (by kernel_rfl) (by kernel_rfl) (by kernel_rfl) ⟨Try.prog.types.size - 1, by kernel_rfl⟩ (wf_i64 ha.1) (wf_i64 ha.2), fun a b => agg2_inj⟩
def kT : KC Try.prog 3 Int := kI Try.prog 3 Try.underlying3
def seenM (l : List Int) : List (Int × Bool) := l.map fun a => (a, true)
theorem seenM_get {l : List Int} {a : Int} (h : a ∈ l) : mget (seenM l) a = some true := by
 cases hm : mget (seenM l) a with
 | none =>
  have := (mget_iff _ _).1 hm (a, true) (List.mem_map.2 ⟨a, h, rfl⟩)
  exact absurd rfl this
 | some v =>
  have : ∀ (l : List Int), mget (seenM l) a = some v → v = true := fun l => by
   induction l with
   | nil => intro h; cases h
   | cons x l ih =>
    intro h
    unfold seenM at h
    rw [List.map_cons, mget] at h
    split at h
    ·injection h with h; exact h.symm
    ·exact ih h
  rw [this l hm]
theorem seenM_none {l : List Int} {a : Int} (h : a ∉ l) : mget (seenM l) a = none := (mget_iff _ _).2 fun p hp e => by
 obtain ⟨x, hx, rfl⟩ := List.mem_map.1 hp
 exact h (by rw [← e]; exact hx)
theorem seenM_put {l : List Int} {a : Int} (h : a ∉ l) : mput (seenM l) a true = seenM (l ++ [a]) := by
 rw [(m_none (seenM l) a (fun p hp e => by obtain ⟨x, hx, rfl⟩ := List.mem_map.1 hp; exact h (by rw [← e]; exact hx))).2.1 true]
 simp [seenM]
theorem Ents.off {A B : List Ent} {w W : World} (h : Ents [grp A, grp B] w) (hO : Only (ids B) w W) : Ents A W := by
 have h1 := (Heap.start h).ents
 have hnd := h.2
 rw [ids_cons, ids_cons] at hnd
 obtain ⟨_, _, dis⟩ := List.nodup_append.1 hnd
 have hA : Ents A w := h.1 (grp A) (by simp)
 refine ⟨fun E hE => E.loc w W (fun i hi => ?_) (hA.1 E hE), hA.2⟩
 have hm : i ∈ (grp A).ids := mem_ids.2 ⟨E, hE, hi⟩
 refine hO.block i (E.lt w (hA.1 E hE) i hi) fun hf => ?_
 exact dis i hm i (List.mem_append_left _ hf) rfl
theorem Ents.snd {A B : List Ent} {w : World} (h : Ents [grp A, grp B] w) : Ents B w := h.1 (grp B) (by simp)
def trE (g : Geo) (n : Nat) (A : Option Addr) (k c p bs bb : Nat) (OA : Option Addr) (oc : Nat) (s : Tr.S) : List Ent :=
 [blk p [ptr g.p, .int .i64 n, .slice A k c, .map (some bs), .slice OA s.op.length oc, .map (some bb)] 110, mp kT Value.bool bs (seenM s.seen), ownN 1 (.slice OA s.op.length oc) s.op.length (s.op.map (Value.int .i64)) 3, mp kE (Value.int .i64) bb s.bad]
section
variable {g : Geo} {d : Nv.D} {n k c p bs bb oc : Nat} {A OA : Option Addr} {hs : List Ob.H3} {s : Tr.S} {w : World}
theorem trReach (hE : Ents [grp (devL g d), grp (trE g n A k c p bs bb OA oc s)] w) (hw : Ob.W64 d.cache) (hl : d.cache.length ≤ 1000000000) (hS : HSees w (ids (trE g n A k c p bs bb OA oc s)) A hs) (hk : hs.length = k) (hk2 : k ≤ 1000000) (hW : hsW hs) (hn : n ≤ 1000000) (ho : s.op.length ≤ 1000000) (e1 e2 a : Int) (he1 : i64ok e1) (he2 : i64ok e2) (ha : i64ok a) :
  Calls Try.prog 61 [ptr p, .agg [.int .i64 e1, .int .i64 e2].toArray, .int .i64 a].toArray w fun e w' => e = .returned (.int .i64 (Tr.code (Ob.pl n d.cache hs) s a)) ∧ ∃ OA' oc', Heap w (ids (trE g n A k c p bs bb OA oc s)) (trE g n A k c p bs bb OA' oc' (Tr.reach (Ob.pl n d.cache hs) s (e1, e2) a)) w' := by
 have hDev := fun {W : World} (h : Only (ids (trE g n A k c p bs bb OA oc s)) w W) => hE.off h
 have hS2 := fun {W : World} (h : Only (ids (trE g n A k c p bs bb OA oc s)) w W) => (hS.later h (fun _ h => h)).mono (G := []) (by simp)
 have H := Heap.start hE.snd
 generalize hI : ids (trE g n A k c p bs bb OA oc s) = I at *
 have gda : kT.Gd a := ha
 unfold Tr.code Tr.reach
 by_cases h0 : a = 0
 ·rw [if_pos (.inl h0), if_pos (.inl h0)]
  unfold trE at H
  refine k_in (N := 59) Try.func61 rfl rfl rfl ?_
  refine k_sg ?_
  refine s_box H rfl rfl ?_
  intro p4 _ H'; clear H; have H := H'; clear H'
  refine s_run rfl rfl (rai rfl) ?_
  refine k_nc ?_
  refine k_seq ?_
  refine k_sg ?_
  refine s_run rfl rfl (rmi rfl) ?_
  refine s_run rfl rfl (r_eqlT rfl rfl (by omega)) ?_
  refine s_run rfl rfl (rmb rfl) ?_
  refine s_off rfl (g_off 11 (by kernel_rfl) rfl rfl) ?_
  refine s_off rfl (g_off 11 (by kernel_rfl) rfl rfl) ?_
  refine s_off rfl (g_off 11 (by kernel_rfl) rfl rfl) ?_
  refine s_off rfl (g_off 11 (by kernel_rfl) rfl rfl) ?_
  refine s_off rfl (g_off 11 (by kernel_rfl) rfl rfl) ?_
  refine s_off rfl (g_off 11 (by kernel_rfl) rfl rfl) ?_
  refine s_run rfl rfl (r_pkT (v := .bool _) rfl rfl) ?_
  refine k_nc ?_
  refine k_t rfl ?_
  refine k_sg ?_
  refine s_run rfl rfl (rai rfl) ?_
  refine k_nc ?_
  refine k_ret ?_
  refine c_ret ?_
  refine fin1r (v := .int _ _) rfl rfl ?_
  exact ⟨rfl, OA, oc, H.drop⟩
 ·by_cases hm : a ∈ s.seen
  ·rw [if_pos (.inr hm), if_pos (.inr hm)]
   have hg := seenM_get hm
   unfold trE at H
   refine k_in (N := 59) Try.func61 rfl rfl rfl ?_
   refine k_sg ?_
   refine s_box H rfl rfl ?_
   intro p4 _ H'; clear H; have H := H'; clear H'
   refine s_run rfl rfl (rai rfl) ?_
   refine k_nc ?_
   refine k_seq ?_
   refine k_sg ?_
   refine s_run rfl rfl (rmi rfl) ?_
   refine s_run rfl rfl (r_eqlF rfl rfl (by omega)) ?_
   refine s_run rfl rfl (rmb rfl) ?_
   refine s_run rfl (g_on 11 (by kernel_rfl) rfl) (rmp rfl) ?_
   refine s_run rfl (g_on 11 (by kernel_rfl) rfl) (r_nc rfl) ?_
   refine s_run rfl (g_on 11 (by kernel_rfl) rfl) (r_fa0 rfl fo110_3) ?_
   refine s_run rfl (g_on 11 (by kernel_rfl) rfl) (r_lo H 1 rfl rfl rfl ag107) ?_
   refine s_run rfl (g_on 11 (by kernel_rfl) rfl) (rmi rfl) ?_
   refine s_run rfl (g_on 11 (by kernel_rfl) rfl) (r_lkS H 2 rfl rfl rfl (gda) (hg) Try.underlying107 (zv_of inf4) rfl) ?_
   refine s_run rfl rfl (r_pkF (v := .bool _) rfl rfl) ?_
   refine k_nc ?_
   refine k_t rfl ?_
   refine k_sg ?_
   refine s_run rfl rfl (rai rfl) ?_
   refine k_nc ?_
   refine k_ret ?_
   refine c_ret ?_
   refine fin1r (v := .int _ _) rfl rfl ?_
   exact ⟨rfl, OA, oc, H.drop⟩
  ·have hno : ¬ (a = 0 ∨ a ∈ s.seen) := fun h => h.elim h0 hm
   rw [if_neg hno, if_neg hno]
   have hg := seenM_none hm
   have hP := fun {W : World} (h : Only I w W) => obPlaced (hDev h) hw hl A k c hs (hS2 h) hk hk2 hW n hn a ha
   generalize Ob.pl n d.cache hs a = b at *
   unfold trE at H
   refine k_in (N := 59) Try.func61 rfl rfl rfl ?_
   refine k_sg ?_
   refine s_box H rfl rfl ?_
   intro p4 _ H'; clear H; have H := H'; clear H'
   refine s_run rfl rfl (rai rfl) ?_
   refine k_nc ?_
   refine k_seq ?_
   refine k_sg ?_
   refine s_run rfl rfl (rmi rfl) ?_
   refine s_run rfl rfl (r_eqlF rfl rfl (by omega)) ?_
   refine s_run rfl rfl (rmb rfl) ?_
   refine s_run rfl (g_on 11 (by kernel_rfl) rfl) (rmp rfl) ?_
   refine s_run rfl (g_on 11 (by kernel_rfl) rfl) (r_nc rfl) ?_
   refine s_run rfl (g_on 11 (by kernel_rfl) rfl) (r_fa0 rfl fo110_3) ?_
   refine s_run rfl (g_on 11 (by kernel_rfl) rfl) (r_lo H 1 rfl rfl rfl ag107) ?_
   refine s_run rfl (g_on 11 (by kernel_rfl) rfl) (rmi rfl) ?_
   refine s_run rfl (g_on 11 (by kernel_rfl) rfl) (r_lkN H 2 rfl rfl rfl (gda) (hg) Try.underlying107 (zv_of inf4)) ?_
   refine s_run rfl rfl (r_pkF (v := .bool _) rfl rfl) ?_
   refine k_nc ?_
   refine k_f rfl ?_
   refine k_skip ?_
   refine c_norm ?_
   refine k_seq ?_
   refine k_seq ?_
   refine k_cut (fun f W => f 0 = ptr p ∧ f 2 = .int .i64 a ∧ f 4 = ptr p4 ∧ f 6 = .int .i64 0 ∧ f 8 = .bool b ∧ Heap w I [blk p4 [.int .i64 e1, .int .i64 e2] 113, blk p [ptr g.p, .int .i64 n, .slice A k c, .map (some bs), .slice OA s.op.length oc, .map (some bb)] 110, mp kT Value.bool bs (seenM s.seen), ownN 1 (.slice OA s.op.length oc) s.op.length (s.op.map (Value.int .i64)) 3, mp kE (Value.int .i64) bb s.bad] W) ?_ ?_
   ·refine k_trS (A := [_]) mixed H [1] rfl ?_; have H' := H.drew; clear H; have H := H'; clear H'
    refine tqn 0 rfl rfl rfl (fun _ hS => r_mv (v := .pointer _) rfl) (H.subl [1] rfl rfl) ?_
    refine tqn 1 rfl rfl rfl (fun _ hS => r_nc rfl) (H.subl [1] rfl rfl) ?_
    refine tqn 2 rfl rfl rfl (fun _ hS => r_fa0 rfl fo110_0) (H.subl [1] rfl rfl) ?_
    refine tqn 3 rfl rfl rfl (fun _ hS => r_lo hS 0 rfl rfl rfl ag46) (H.subl [1] rfl rfl) ?_
    refine tqn 4 rfl rfl rfl (fun _ hS => r_mv (v := .pointer _) rfl) (H.subl [1] rfl rfl) ?_
    refine tqn 5 rfl rfl rfl (fun _ hS => r_nc rfl) (H.subl [1] rfl rfl) ?_
    refine tqn 6 rfl rfl rfl (fun _ hS => r_fa0 rfl fo110_1) (H.subl [1] rfl rfl) ?_
    refine tqn 7 rfl rfl rfl (fun _ hS => r_lp (vs := [.int .i64 n]) hS 0 rfl rfl rfl rfl ag48 sz48) (H.subl [1] rfl rfl) ?_
    refine tqn 8 rfl rfl rfl (fun _ hS => r_mv (v := .pointer _) rfl) (H.subl [1] rfl rfl) ?_
    refine tqn 9 rfl rfl rfl (fun _ hS => r_nc rfl) (H.subl [1] rfl rfl) ?_
    refine tqn 10 rfl rfl rfl (fun _ hS => r_fa0 rfl fo110_2) (H.subl [1] rfl rfl) ?_
    refine tqn 11 rfl rfl rfl (fun _ hS => r_lo hS 0 rfl rfl rfl ag49) (H.subl [1] rfl rfl) ?_
    refine tqn 12 rfl rfl rfl (fun _ hS => r_mv (v := .int _ _) rfl) (H.subl [1] rfl rfl) ?_
    refine t_up2 13 17 (by kernel_rfl) ?_ ?_
    ·refine up_mk rfl ?_
     refine s_call rfl (hP H.only) (ca90 rfl) ?_
     rintro e W1 ⟨⟨P0, D0, rfl, _⟩, H'⟩
     refine ⟨_, rfl, ?_⟩
     have H := H.same H'; clear H'
     refine k_nil ?_
     refine t_on (H.subl [1] rfl rfl) ?_
     refine tqn 14 rfl rfl rfl (fun _ hS => r_mv (v := .tuple _) rfl) (H.subl [1] rfl rfl) ?_
     refine tqn 15 rfl rfl rfl (fun _ hS => r_ext (v := .agg _) rfl rfl) (H.subl [1] rfl rfl) ?_
     refine tqn 16 rfl rfl rfl (fun _ hS => r_ext (v := .bool _) rfl rfl) (H.subl [1] rfl rfl) ?_
     refine t_up1 17 (by kernel_rfl) ?_
     refine up_mk rfl ?_
     refine s_al H rfl inf149 ?_
     intro p7 _ H'; clear H; have H := H'; clear H'
     refine k_nil ?_
     refine t_on (H.subl [2] rfl rfl) ?_
     refine t_up1 18 (by kernel_rfl) ?_
     refine up_mk rfl ?_
     refine s_sw H 0 rfl rfl rfl rfl rfl rfl rfl sz149 ?_
     clear H; intro _ H; simp only [jA, jB, jC, jD, jE, jF, jG, jH, jI, jJ, jK, Nat.reduceAdd] at H
     refine k_nil ?_
     refine t_on (H.subl [2] rfl rfl) ?_
     refine tqn 19 rfl rfl rfl (fun _ hS => r_as (v := .bool _) rfl) (H.subl [2] rfl rfl) ?_
     refine t_done (by kernel_rfl) ?_
     refine k_met ?_
     exact ⟨rfl, rfl, rfl, rfl, rfl, H.drop⟩
    ·refine up_mk rfl ?_
     refine s_al H rfl inf149 ?_
     intro p7 _ H'; clear H; have H := H'; clear H'
     refine k_nil ?_
     refine t_on (H.subl [2] rfl rfl) ?_
     refine t_up1 13 (by kernel_rfl) ?_
     refine up_mk rfl ?_
     refine s_call rfl (hP H.only) (ca90 rfl) ?_
     rintro e W1 ⟨⟨P0, D0, rfl, _⟩, H'⟩
     refine ⟨_, rfl, ?_⟩
     have H := H.same H'; clear H'
     refine k_nil ?_
     refine t_on (H.subl [2] rfl rfl) ?_
     refine tqn 14 rfl rfl rfl (fun _ hS => r_mv (v := .tuple _) rfl) (H.subl [2] rfl rfl) ?_
     refine tqn 15 rfl rfl rfl (fun _ hS => r_ext (v := .agg _) rfl rfl) (H.subl [2] rfl rfl) ?_
     refine tqn 16 rfl rfl rfl (fun _ hS => r_ext (v := .bool _) rfl rfl) (H.subl [2] rfl rfl) ?_
     refine t_up1 18 (by kernel_rfl) ?_
     refine up_mk rfl ?_
     refine s_sw H 0 rfl rfl rfl rfl rfl rfl rfl sz149 ?_
     clear H; intro _ H; simp only [jA, jB, jC, jD, jE, jF, jG, jH, jI, jJ, jK, Nat.reduceAdd] at H
     refine k_nil ?_
     refine t_on (H.subl [2] rfl rfl) ?_
     refine tqn 19 rfl rfl rfl (fun _ hS => r_as (v := .bool _) rfl) (H.subl [2] rfl rfl) ?_
     refine t_done (by kernel_rfl) ?_
     refine k_met ?_
     exact ⟨rfl, rfl, rfl, rfl, rfl, H.drop⟩
   clear H
   rintro f W ⟨f0, f2, f4, f6, f8, H⟩
   obtain ⟨f, rfl⟩ := live5 f0 f2 f4 f6 f8
   clear f0 f2 f4 f6 f8
   cases b with
   | true =>
    rw [if_pos rfl, if_pos rfl]
    refine c_norm ?_
    refine k_sg ?_
    refine s_run rfl rfl (rmb rfl) ?_
    refine s_run rfl rfl (r_notT rfl) ?_
    refine k_nc ?_
    refine k_f rfl ?_
    refine k_skip ?_
    refine c_norm ?_
    refine k_sg ?_
    refine s_run rfl rfl (rmp rfl) ?_
    refine s_run rfl rfl (r_nc rfl) ?_
    refine s_run rfl rfl (r_fa0 rfl fo110_3) ?_
    refine s_run rfl rfl (r_lo H 1 rfl rfl rfl ag107) ?_
    refine s_run rfl rfl (rmi rfl) ?_
    refine s_mu (q := true) H 2 rfl rfl rfl rfl rfl (gda) Try.underlying107 ?_
    clear H; intro _ H; simp only [jA, jB, jC, jD, jE, jF, jG, jH, jI, jJ, jK, Nat.reduceAdd] at H
    refine k_nc ?_
    refine k_sg ?_
    refine s_run rfl rfl (rmp rfl) ?_
    refine s_run rfl rfl (rmp rfl) ?_
    refine s_run rfl rfl (r_nc rfl) ?_
    refine s_run rfl rfl (r_fa0 rfl fo110_4) ?_
    refine s_run rfl rfl (r_lo H 1 rfl rfl rfl ag25) ?_
    refine s_run rfl rfl (rmi rfl) ?_
    refine s_app1 (enc := (Value.int .i64)) H 3 rfl rfl rfl rfl rfl rfl rfl (by omega) Try.underlying25 inf3 rfl ?_
    intro _ An cn _ H'; simp only [List.set_cons_zero, List.set_cons_succ, List.take_succ_cons, List.take_zero, List.drop_succ_cons, List.drop_zero, List.cons_append, List.nil_append, List.append_nil, List.length_cons, List.length_nil, Nat.reduceAdd] at H'; clear H; have H := H'; clear H'
    refine s_run rfl rfl (r_nc rfl) ?_
    refine s_run rfl rfl (r_fa0 rfl fo110_4) ?_
    refine s_st (u := .slice _ _ _) H 1 rfl rfl rfl rfl rfl rfl sz25 ?_
    clear H; intro _ H; simp only [jA, jB, jC, jD, jE, jF, jG, jH, jI, jJ, jK, Nat.reduceAdd] at H
    refine k_nc ?_
    refine k_sg ?_
    refine s_run rfl rfl (rai rfl) ?_
    refine k_nc ?_
    refine k_ret ?_
    refine fin1r (v := .int _ _) rfl rfl ?_
    have hle : (s.op ++ [a]).length = s.op.length + 1 := by simp
    rw [seenM_put hm, ← hle] at H
    exact ⟨rfl, _, _, H.drop⟩
   | false =>
    rw [if_neg (by simp), if_neg (by simp)]
    refine c_norm ?_
    refine k_sg ?_
    refine s_run rfl rfl (rmb rfl) ?_
    refine s_run rfl rfl (r_notF rfl) ?_
    refine k_nc ?_
    refine k_t rfl ?_
    refine k_seq ?_
    refine k_qt 6 mixed (by kernel_rfl) H rfl rfl ?_
    refine q_run rfl rfl (fun _ H => r_mv (v := .pointer _) rfl) ?_
    refine q_run rfl rfl (fun _ H => r_nc rfl) ?_
    refine q_run rfl rfl (fun _ H => r_fa0 rfl fo110_5) ?_
    refine q_run rfl rfl (fun _ H => r_lo H 1 rfl rfl rfl ag108) ?_
    refine q_run rfl rfl (fun _ H => r_la H 0 rfl rfl rfl ag113 sz113) ?_
    refine q_run rfl rfl (fun _ H => r_mv (v := .int _ _) rfl) ?_
    refine q_nil ?_
    intro _ H'; clear H; have H := H'; clear H'
    refine s_mu H 4 rfl rfl rfl rfl rfl ((show kE.Gd (e1, e2) from ⟨he1, he2⟩)) Try.underlying108 ?_
    clear H; intro _ H; simp only [jA, jB, jC, jD, jE, jF, jG, jH, jI, jJ, jK, Nat.reduceAdd] at H
    refine k_nc ?_
    refine k_sg ?_
    refine s_run rfl rfl (rai rfl) ?_
    refine k_nc ?_
    refine k_ret ?_
    refine c_ret ?_
    refine fin1r (v := .int _ _) rfl rfl ?_
    exact ⟨rfl, OA, oc, H.drop⟩
end
end Go.Proofs.Ytlakbclnilakbaa
end
