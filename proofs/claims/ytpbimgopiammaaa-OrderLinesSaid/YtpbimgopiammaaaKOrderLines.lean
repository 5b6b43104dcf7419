/-
  OrderLines: for every input the Go function answers true, and its arguments read afterwards as they read before. No condition.
-/
import Derived.Shelf.Sort.Plain
import Derived.Shelf.Slices.In.SortNone
import Derived.Sort.OwnSortedInts
import Derived.Test.YtpbimgopiammaaaKOrderLinesa
set_option linter.unusedSimpArgs false
set_option linter.unusedVariables false
set_option linter.unusedSectionVars false
section
namespace Go.Proofs.Ytpbimgopiammaaa
open Go.RowKit
theorem ag3 (W : World) : (isAgg 3).run Try.prog W = .ok false W := by kernel_rfl
theorem sz3 (W : World) : (Go.sizeOf 3).run Try.prog W = .ok 1 W := by kernel_rfl
theorem ag4 (W : World) : (isAgg 4).run Try.prog W = .ok false W := by kernel_rfl
theorem sz4 (W : World) : (Go.sizeOf 4).run Try.prog W = .ok 1 W := by kernel_rfl
theorem ag49 (W : World) : (isAgg 49).run Try.prog W = .ok true W := by kernel_rfl
theorem sz49 (W : World) : (Go.sizeOf 49).run Try.prog W = .ok 2 W := by kernel_rfl
theorem fo49_0 (a : Addr) (W : World) : (Instr.fieldAt 49 (.pointer (some a)) 0).run Try.prog W = .ok (.pointer (some (a.add 0))) W := by kernel_rfl
theorem fo49_1 (a : Addr) (W : World) : (Instr.fieldAt 49 (.pointer (some a)) 1).run Try.prog W = .ok (.pointer (some (a.add 1))) W := by kernel_rfl
theorem ag58 (W : World) : (isAgg 58).run Try.prog W = .ok false W := by kernel_rfl
theorem sz58 (W : World) : (Go.sizeOf 58).run Try.prog W = .ok 1 W := by kernel_rfl
theorem ag69 (W : World) : (isAgg 69).run Try.prog W = .ok true W := by kernel_rfl
theorem sz69 (W : World) : (Go.sizeOf 69).run Try.prog W = .ok 3 W := by kernel_rfl
theorem ag87 (W : World) : (isAgg 87).run Try.prog W = .ok false W := by kernel_rfl
theorem ag88 (W : World) : (isAgg 88).run Try.prog W = .ok false W := by kernel_rfl
theorem fo90_0 (a : Addr) (W : World) : (Instr.fieldAt 90 (.pointer (some a)) 0).run Try.prog W = .ok (.pointer (some (a.add 0))) W := by kernel_rfl
theorem fo90_1 (a : Addr) (W : World) : (Instr.fieldAt 90 (.pointer (some a)) 1).run Try.prog W = .ok (.pointer (some (a.add 1))) W := by kernel_rfl
theorem fo90_2 (a : Addr) (W : World) : (Instr.fieldAt 90 (.pointer (some a)) 2).run Try.prog W = .ok (.pointer (some (a.add 2))) W := by kernel_rfl
theorem fo90_3 (a : Addr) (W : World) : (Instr.fieldAt 90 (.pointer (some a)) 3).run Try.prog W = .ok (.pointer (some (a.add 3))) W := by kernel_rfl
theorem fo90_4 (a : Addr) (W : World) : (Instr.fieldAt 90 (.pointer (some a)) 4).run Try.prog W = .ok (.pointer (some (a.add 4))) W := by kernel_rfl
theorem inf3 : Inf Try.prog 3 (.int .i64 0) 1 8 := inf_of (by kernel_rfl)
theorem inf49 : Inf Try.prog 49 (.agg [.int .i64 0, .int .i64 0].toArray) 2 16 := inf_of (by kernel_rfl)
theorem inf69 : Inf Try.prog 69 (.agg [.int .i64 0, .int .i64 0, .int .i64 0].toArray) 3 24 := inf_of (by kernel_rfl)
theorem inf92 : Inf Try.prog 92 (.int .i64 0) 1 8 := inf_of (by kernel_rfl)
theorem bd49_0 (z0 : Int) (W : World) : (Instr.build 49 ([(0, .int .i64 z0)] : List (Nat × Value)).toArray).run Try.prog W = .ok (.agg ([(.int .i64 z0), (.int .i64 0)] : List Value).toArray) W := by kernel_rfl
theorem bd49_0_1 (z0 : Int) (z1 : Int) (W : World) : (Instr.build 49 ([(0, .int .i64 z0), (1, .int .i64 z1)] : List (Nat × Value)).toArray).run Try.prog W = .ok (.agg ([(.int .i64 z0), (.int .i64 z1)] : List Value).toArray) W := by kernel_rfl
theorem bd69_0_1_2 (z0 : Int) (z1 : Int) (z2 : Int) (W : World) : (Instr.build 69 ([(0, .int .i64 z0), (1, .int .i64 z1), (2, .int .i64 z2)] : List (Nat × Value)).toArray).run Try.prog W = .ok (.agg ([(.int .i64 z0), (.int .i64 z1), (.int .i64 z2)] : List Value).toArray) W := by kernel_rfl
theorem bd90_0_1 (z0 : Option Nat) (z1 : Option Nat) (W : World) : (Instr.build 90 ([(0, .map z0), (1, .map z1)] : List (Nat × Value)).toArray).run Try.prog W = .ok (.agg ([(.map z0), (.map z1), (.bool false), (.int .i64 0), (.slice none 0 0)] : List Value).toArray) W := by kernel_rfl
theorem mixed : Try.prog.follows .mixedOrders = true := by kernel_rfl
variable {n : Nat} {f : Nat → Value} {ty : TypeId} {pos : String} {af : Array Edge} {g : Option (Nat × Bool)} {xs : Array Operand} {tys : Array TypeId} {dst : Option Tmp} {vs : List Value}
theorem ca17 {n : Sz} {f : Nat → Value} {ty : TypeId} {pos : String} {af : Array Edge} {g : Option (Nat × Bool)} {xs : Array Operand} {tys : Array TypeId} {dst : Option Tmp} {vs : List Value} (hv : xs.toList.map (ev n f) = vs) (W : World) : (execOp (ev n f) ⟨dst, .call ⟨.value (.func 17), xs, tys⟩, ty, pos, af, g⟩).run Try.prog W = .ok (.enter 17 vs.toArray) W := r_call Try.func17 (by kernel_rfl) (by kernel_rfl) hv W
theorem ca18 {n : Sz} {f : Nat → Value} {ty : TypeId} {pos : String} {af : Array Edge} {g : Option (Nat × Bool)} {xs : Array Operand} {tys : Array TypeId} {dst : Option Tmp} {vs : List Value} (hv : xs.toList.map (ev n f) = vs) (W : World) : (execOp (ev n f) ⟨dst, .call ⟨.value (.func 18), xs, tys⟩, ty, pos, af, g⟩).run Try.prog W = .ok (.enter 18 vs.toArray) W := r_call Try.func18 (by kernel_rfl) (by kernel_rfl) hv W
theorem ca19 {n : Sz} {f : Nat → Value} {ty : TypeId} {pos : String} {af : Array Edge} {g : Option (Nat × Bool)} {xs : Array Operand} {tys : Array TypeId} {dst : Option Tmp} {vs : List Value} (hv : xs.toList.map (ev n f) = vs) (W : World) : (execOp (ev n f) ⟨dst, .call ⟨.value (.func 19), xs, tys⟩, ty, pos, af, g⟩).run Try.prog W = .ok (.enter 19 vs.toArray) W := r_call Try.func19 (by kernel_rfl) (by kernel_rfl) hv W
theorem ca26 {n : Sz} {f : Nat → Value} {ty : TypeId} {pos : String} {af : Array Edge} {g : Option (Nat × Bool)} {xs : Array Operand} {tys : Array TypeId} {dst : Option Tmp} {vs : List Value} (hv : xs.toList.map (ev n f) = vs) (W : World) : (execOp (ev n f) ⟨dst, .call ⟨.value (.func 26), xs, tys⟩, ty, pos, af, g⟩).run Try.prog W = .ok (.enter 26 vs.toArray) W := r_call Try.func26 (by kernel_rfl) (by kernel_rfl) hv W
theorem ca27 {n : Sz} {f : Nat → Value} {ty : TypeId} {pos : String} {af : Array Edge} {g : Option (Nat × Bool)} {xs : Array Operand} {tys : Array TypeId} {dst : Option Tmp} {vs : List Value} (hv : xs.toList.map (ev n f) = vs) (W : World) : (execOp (ev n f) ⟨dst, .call ⟨.value (.func 27), xs, tys⟩, ty, pos, af, g⟩).run Try.prog W = .ok (.enter 27 vs.toArray) W := r_call Try.func27 (by kernel_rfl) (by kernel_rfl) hv W
theorem ca28 {n : Sz} {f : Nat → Value} {ty : TypeId} {pos : String} {af : Array Edge} {g : Option (Nat × Bool)} {xs : Array Operand} {tys : Array TypeId} {dst : Option Tmp} {vs : List Value} (hv : xs.toList.map (ev n f) = vs) (W : World) : (execOp (ev n f) ⟨dst, .call ⟨.value (.func 28), xs, tys⟩, ty, pos, af, g⟩).run Try.prog W = .ok (.enter 28 vs.toArray) W := r_call Try.func28 (by kernel_rfl) (by kernel_rfl) hv W
theorem ca40 {n : Sz} {f : Nat → Value} {ty : TypeId} {pos : String} {af : Array Edge} {g : Option (Nat × Bool)} {xs : Array Operand} {tys : Array TypeId} {dst : Option Tmp} {vs : List Value} (hv : xs.toList.map (ev n f) = vs) (W : World) : (execOp (ev n f) ⟨dst, .call ⟨.value (.func 40), xs, tys⟩, ty, pos, af, g⟩).run Try.prog W = .ok (.enter 40 vs.toArray) W := r_call Try.func40 (by kernel_rfl) (by kernel_rfl) hv W
theorem ca41 {n : Sz} {f : Nat → Value} {ty : TypeId} {pos : String} {af : Array Edge} {g : Option (Nat × Bool)} {xs : Array Operand} {tys : Array TypeId} {dst : Option Tmp} {vs : List Value} (hv : xs.toList.map (ev n f) = vs) (W : World) : (execOp (ev n f) ⟨dst, .call ⟨.value (.func 41), xs, tys⟩, ty, pos, af, g⟩).run Try.prog W = .ok (.enter 41 vs.toArray) W := r_call Try.func41 (by kernel_rfl) (by kernel_rfl) hv W
theorem ca42 {n : Sz} {f : Nat → Value} {ty : TypeId} {pos : String} {af : Array Edge} {g : Option (Nat × Bool)} {xs : Array Operand} {tys : Array TypeId} {dst : Option Tmp} {vs : List Value} (hv : xs.toList.map (ev n f) = vs) (W : World) : (execOp (ev n f) ⟨dst, .call ⟨.value (.func 42), xs, tys⟩, ty, pos, af, g⟩).run Try.prog W = .ok (.enter 42 vs.toArray) W := r_call Try.func42 (by kernel_rfl) (by kernel_rfl) hv W
theorem ca43 {n : Sz} {f : Nat → Value} {ty : TypeId} {pos : String} {af : Array Edge} {g : Option (Nat × Bool)} {xs : Array Operand} {tys : Array TypeId} {dst : Option Tmp} {vs : List Value} (hv : xs.toList.map (ev n f) = vs) (W : World) : (execOp (ev n f) ⟨dst, .call ⟨.value (.func 43), xs, tys⟩, ty, pos, af, g⟩).run Try.prog W = .ok (.enter 43 vs.toArray) W := r_call Try.func43 (by kernel_rfl) (by kernel_rfl) hv W
end Go.Proofs.Ytpbimgopiammaaa
end

section
namespace Go.Proofs.Ytpbimgopiammaaa
open Go.RowKit

end Go.Proofs.Ytpbimgopiammaaa
end

section
namespace Go.Proofs.Ytpbimgopiammaaa
open Go.RowKit
set_option maxRecDepth 100000
set_option maxHeartbeats 1000000
abbrev ptr (p : Nat) : Value := .pointer (some ⟨p, 0, none⟩)
/-- a fault -/
structure Flt where
 at_ : Int
 line : Int
 kind : Int
def Flt.cells (x : Flt) : List C1 := [C1.i .i64 x.at_, C1.i .i64 x.line, C1.i .i64 x.kind]
def fltN (l : List Flt) : List C1 := l.flatMap Flt.cells
/-- what a checker knows -/
structure Ck where
 lines : List (Int × Int)
 marked : List (Int × Bool)
 flush : Bool
 at_ : Nat
 faults : List Flt
def kS : KC Try.prog 3 Int := kI Try.prog 3 Try.underlying3
/-- .. in memory -/
def ckE (p b1 b2 : Nat) (A : Option Addr) (c : Nat) (s : Ck) : List Ent :=
 [blk p [.map (some b1), .map (some b2), .bool s.flush, .int .i64 s.at_, .slice A s.faults.length c] 90, mp kS (Value.int .i64) b1 s.lines, mp kS Value.bool b2 s.marked, ownN 3 (.slice A s.faults.length c) s.faults.length ((fltN s.faults).map C1.v) 69]
def Ck.fault (s : Ck) (line kind : Int) : Ck := { s with faults := s.faults ++ [⟨s.at_, line, kind⟩] }
theorem ckE_fault (p b1 b2 : Nat) (A : Option Addr) (c : Nat) (s : Ck) (line kind : Int) : ckE p b1 b2 A c (s.fault line kind) = [blk p [.map (some b1), .map (some b2), .bool s.flush, .int .i64 s.at_, .slice A (s.faults.length + 1) c] 90, mp kS (Value.int .i64) b1 s.lines, mp kS Value.bool b2 s.marked, ownN 3 (.slice A (s.faults.length + 1) c) (s.faults.length + 1) ((fltN s.faults ++ [C1.i .i64 s.at_, C1.i .i64 line, C1.i .i64 kind]).map C1.v) 69] := by
 unfold ckE Ck.fault
 simp [fltN, Flt.cells]
theorem nd_eq {α β : Type} : ∀ {l : List (α × β)}, (l.map Prod.fst).Nodup → ∀ {p q : α × β}, p ∈ l → q ∈ l → p.1 = q.1 → p = q
 | [], _, p, q, hp, _, _ => by simp at hp
 | x :: l, h, p, q, hp, hq, e => by
  simp only [List.map_cons, List.nodup_cons] at h
  rcases List.mem_cons.1 hp with rfl | hp
  ·rcases List.mem_cons.1 hq with rfl | hq
   ·rfl
   ·exact (h.1 (List.mem_map.2 ⟨q, by assumption, e.symm⟩)).elim
  ·rcases List.mem_cons.1 hq with rfl | hq
   ·exact (h.1 (List.mem_map.2 ⟨p, by assumption, e⟩)).elim
   ·exact nd_eq h.2 hp hq e
theorem mleft_filter_le {α β : Type} (q : (α × β) × Bool → Bool) : ∀ lb : List ((α × β) × Bool), (mleft (lb.filter q)).length ≤ (mleft lb).length := fun lb => by
 unfold mleft
 rw [List.length_map, List.length_map]
 exact (List.Sublist.filter _ List.filter_sublist).length_le
theorem mleft_set_len {α β : Type} {lb : List ((α × β) × Bool)} {j : Nat} {p : α × β} (h : lb[j]? = some (p, true)) : (mleft lb).length = (mleft (lb.set j (p, false))).length + 1 := by
 have := (mleft_set lb j p h).length_eq; simpa using this
theorem mset_fst {α β : Type} {lb : List ((α × β) × Bool)} {j : Nat} {p : α × β} (h : lb[j]? = some (p, true)) : (lb.set j (p, false)).map (·.1) = lb.map (·.1) := by
 rw [List.map_set]
 apply List.ext_getElem?
 intro i
 rw [List.getElem?_set]
 by_cases e : j = i
 ·subst e
  rw [if_pos rfl, List.getElem?_map, h]
  have := (List.getElem?_eq_some_iff.1 h).1
  rw [if_pos (by simpa using this)]; rfl
 ·rw [if_neg e]
theorem Heap.mi_nd {P : Program} {kt : TypeId} {α β : Type} {C : KC P kt α} {venc : β → Value} {b r : Nat} {lb : List ((α × β) × Bool)} {cur : Option (α × β)} {W w0 : World} {F : List Nat} {L : List Ent} (H : Heap w0 F L W) (j : Nat) (hj : L[j]? = some (mi C venc b r lb cur)) : ((lb.map (·.1)).map Prod.fst).Nodup := by
 obtain ⟨es, clock, since, seen, c0, hb, hr, hk, _⟩ := H.ok _ (List.mem_of_getElem? hj)
 exact hk.ok.nd
theorem oFault (p b1 b2 : Nat) (A : Option Addr) (c : Nat) (s : Ck) (line kind : Int) (w : World) (hE : Ents (ckE p b1 b2 A c s) w) (hf : s.faults.length ≤ 1000000) :
  Calls Try.prog 40 [ptr p, .int .i64 line, .int .i64 kind].toArray w fun e w' => e = .returned (.tuple #[]) ∧ ∃ A' c', Heap w (ids (ckE p b1 b2 A c s)) (ckE p b1 b2 A' c' (s.fault line kind)) w' := by
 have H := Heap.start hE
 unfold ckE at H
 refine k_in (N := 22) Try.func40 rfl rfl rfl ?_
 refine k_trF mixed ?_; have H' := H.drew; clear H; have H := H'; clear H'
 refine tqh 0 rfl rfl rfl (fun _ hS => r_mv (v := .pointer _) rfl) trivial ?_
 refine tqh 1 rfl rfl rfl (fun _ hS => r_mv (v := .pointer _) rfl) trivial ?_
 refine tqh 2 rfl rfl rfl (fun _ hS => r_nc rfl) trivial ?_
 refine tqh 3 rfl rfl rfl (fun _ hS => r_fa0 rfl fo90_4) trivial ?_
 refine tqh 5 rfl rfl rfl (fun _ hS => r_mv (v := .pointer _) rfl) trivial ?_
 refine tqh 6 rfl rfl rfl (fun _ hS => r_nc rfl) trivial ?_
 refine tqh 7 rfl rfl rfl (fun _ hS => r_fa0 rfl fo90_3) trivial ?_
 refine tqh 9 rfl rfl rfl (fun _ hS => r_mv (v := .int _ _) rfl) trivial ?_
 refine tqh 10 rfl rfl rfl (fun _ hS => r_mv (v := .int _ _) rfl) trivial ?_
 refine t_up2 4 8 (by kernel_rfl) ?_ ?_
 ·refine up_mk rfl ?_
  refine s_run rfl rfl (r_lo H 0 rfl rfl rfl ag58) ?_
  refine k_nil ?_
  refine t_on trivial ?_
  refine t_up1 8 (by kernel_rfl) ?_
  refine up_mk rfl ?_
  refine s_run rfl rfl (r_lo H 0 rfl rfl rfl ag3) ?_
  refine k_nil ?_
  refine t_on trivial ?_
  refine tqh 11 rfl rfl rfl (fun _ hS => r_bd (bd69_0_1_2 _ _ _) rfl) trivial ?_
  refine t_up1 12 (by kernel_rfl) ?_
  refine up_mk rfl ?_
  refine s_bsN (enc := C1.v) (size := 3) (zs := [C1.i .i64 s.at_, C1.i .i64 line, C1.i .i64 kind]) H rfl rfl rfl (by omega) (by kernel_rfl) Try.underlying58 inf69 ?_
  intro _ _ H'; clear H; have H := H'; clear H'
  refine k_nil ?_
  refine t_on trivial ?_
  refine t_up1 13 (by kernel_rfl) ?_
  refine up_mk rfl ?_
  refine s_apB (enc := C1.v) (size := 3) H 3 rfl rfl rfl rfl C1.one (by omega) (by omega) Try.underlying58 inf69 rfl ?_
  intro FA fc _ H'; simp only [List.set_cons_zero, List.set_cons_succ, List.take_succ_cons, List.take_zero, List.drop_succ_cons, List.drop_zero, List.cons_append, List.nil_append, List.append_nil, List.length_cons, List.length_nil, Nat.reduceAdd] at H'; clear H; have H := H'; clear H'
  refine k_nil ?_
  refine t_on trivial ?_
  refine tqh 14 rfl rfl rfl (fun _ hS => r_nc rfl) trivial ?_
  refine tqh 15 rfl rfl rfl (fun _ hS => r_fa0 rfl fo90_4) trivial ?_
  refine t_up1 16 (by kernel_rfl) ?_
  refine up_mk rfl ?_
  refine s_st (u := .slice _ _ _) H 0 rfl rfl rfl rfl rfl rfl sz58 ?_
  clear H; intro _ H; simp only [jA, jB, jC, jD, jE, jF, jG, jH, jI, jJ, jK, Nat.reduceAdd] at H
  refine k_nil ?_
  refine t_on trivial ?_
  refine t_done (by kernel_rfl) ?_
  refine fin0  rfl ?_
  exact ⟨rfl, FA, fc, by rw [ckE_fault]; exact H⟩
 ·refine up_mk rfl ?_
  refine s_run rfl rfl (r_lo H 0 rfl rfl rfl ag3) ?_
  refine k_nil ?_
  refine t_on trivial ?_
  refine tqh 11 rfl rfl rfl (fun _ hS => r_bd (bd69_0_1_2 _ _ _) rfl) trivial ?_
  refine t_up2 4 12 (by kernel_rfl) ?_ ?_
  ·refine up_mk rfl ?_
   refine s_run rfl rfl (r_lo H 0 rfl rfl rfl ag58) ?_
   refine k_nil ?_
   refine t_on trivial ?_
   refine t_up1 12 (by kernel_rfl) ?_
   refine up_mk rfl ?_
   refine s_bsN (enc := C1.v) (size := 3) (zs := [C1.i .i64 s.at_, C1.i .i64 line, C1.i .i64 kind]) H rfl rfl rfl (by omega) (by kernel_rfl) Try.underlying58 inf69 ?_
   intro _ _ H'; clear H; have H := H'; clear H'
   refine k_nil ?_
   refine t_on trivial ?_
   refine t_up1 13 (by kernel_rfl) ?_
   refine up_mk rfl ?_
   refine s_apB (enc := C1.v) (size := 3) H 3 rfl rfl rfl rfl C1.one (by omega) (by omega) Try.underlying58 inf69 rfl ?_
   intro FA fc _ H'; simp only [List.set_cons_zero, List.set_cons_succ, List.take_succ_cons, List.take_zero, List.drop_succ_cons, List.drop_zero, List.cons_append, List.nil_append, List.append_nil, List.length_cons, List.length_nil, Nat.reduceAdd] at H'; clear H; have H := H'; clear H'
   refine k_nil ?_
   refine t_on trivial ?_
   refine tqh 14 rfl rfl rfl (fun _ hS => r_nc rfl) trivial ?_
   refine tqh 15 rfl rfl rfl (fun _ hS => r_fa0 rfl fo90_4) trivial ?_
   refine t_up1 16 (by kernel_rfl) ?_
   refine up_mk rfl ?_
   refine s_st (u := .slice _ _ _) H 0 rfl rfl rfl rfl rfl rfl sz58 ?_
   clear H; intro _ H; simp only [jA, jB, jC, jD, jE, jF, jG, jH, jI, jJ, jK, Nat.reduceAdd] at H
   refine k_nil ?_
   refine t_on trivial ?_
   refine t_done (by kernel_rfl) ?_
   refine fin0  rfl ?_
   exact ⟨rfl, FA, fc, by rw [ckE_fault]; exact H⟩
  ·refine up_mk rfl ?_
   refine s_bsN (enc := C1.v) (size := 3) (zs := [C1.i .i64 s.at_, C1.i .i64 line, C1.i .i64 kind]) H rfl rfl rfl (by omega) (by kernel_rfl) Try.underlying58 inf69 ?_
   intro _ _ H'; clear H; have H := H'; clear H'
   refine k_nil ?_
   refine t_on trivial ?_
   refine t_up1 4 (by kernel_rfl) ?_
   refine up_mk rfl ?_
   refine s_run rfl rfl (r_lo H 1 rfl rfl rfl ag58) ?_
   refine k_nil ?_
   refine t_on trivial ?_
   refine t_up1 13 (by kernel_rfl) ?_
   refine up_mk rfl ?_
   refine s_apB (enc := C1.v) (size := 3) H 3 rfl rfl rfl rfl C1.one (by omega) (by omega) Try.underlying58 inf69 rfl ?_
   intro FA fc _ H'; simp only [List.set_cons_zero, List.set_cons_succ, List.take_succ_cons, List.take_zero, List.drop_succ_cons, List.drop_zero, List.cons_append, List.nil_append, List.append_nil, List.length_cons, List.length_nil, Nat.reduceAdd] at H'; clear H; have H := H'; clear H'
   refine k_nil ?_
   refine t_on trivial ?_
   refine tqh 14 rfl rfl rfl (fun _ hS => r_nc rfl) trivial ?_
   refine tqh 15 rfl rfl rfl (fun _ hS => r_fa0 rfl fo90_4) trivial ?_
   refine t_up1 16 (by kernel_rfl) ?_
   refine up_mk rfl ?_
   refine s_st (u := .slice _ _ _) H 0 rfl rfl rfl rfl rfl rfl sz58 ?_
   clear H; intro _ H; simp only [jA, jB, jC, jD, jE, jF, jG, jH, jI, jJ, jK, Nat.reduceAdd] at H
   refine k_nil ?_
   refine t_on trivial ?_
   refine t_done (by kernel_rfl) ?_
   refine fin0  rfl ?_
   exact ⟨rfl, FA, fc, by rw [ckE_fault]; exact H⟩
def keepQ (p : Int × Int) : Bool := decide (p.2 ≠ 2)
def Ck.fence (s : Ck) : Ck := { (if s.flush then s else s.fault 0 4) with flush := false, lines := s.lines.filter keepQ }
theorem del_keep {l : List (Int × Int)} (hd : (l.map Prod.fst).Nodup) {q : Int × Int} (hq : q ∈ l) (h2 : keepQ q = false) : (l.filter (fun y => decide (y.1 ≠ q.1))).filter keepQ = l.filter keepQ := by
 rw [List.filter_filter]
 apply List.filter_congr
 intro y hy
 by_cases e : y.1 = q.1
 ·rw [nd_eq hd hy hq e, h2]; rfl
 ·rw [decide_eq_true e, Bool.and_true]
theorem bdel_fst {β : Type} (lb : List ((Int × β) × Bool)) (a : Int) : (lb.filter (fun x => decide (x.1.1 ≠ a))).map (·.1) = (lb.map (·.1)).filter (fun y => decide (y.1 ≠ a)) := by
 rw [List.filter_map]; rfl
theorem iter_start {α β : Type} (l : List (α × β)) : (l.map fun p => (p, true)).map (fun x : (α × β) × Bool => x.1) = l := by rw [List.map_map]; exact List.map_id' l
theorem oFence (p b1 b2 : Nat) (A : Option Addr) (c : Nat) (s : Ck) (w : World) (hE : Ents (ckE p b1 b2 A c s) w) (hf : s.faults.length ≤ 1000000) :
  Calls Try.prog 41 [ptr p].toArray w fun e w' => e = .returned (.tuple #[]) ∧ ∃ A' c', Heap w (ids (ckE p b1 b2 A c s)) (ckE p b1 b2 A' c' s.fence) w' := by
 have hFl := fun {W : World} hE => oFault p b1 b2 A c s 0 4 W hE hf
 have H := Heap.start hE
 obtain ⟨ls, ms, fl, at0, fs⟩ := s
 simp only at hf
 cases fl with
 | true =>
  unfold ckE at H
  refine k_in (N := 31) Try.func41 rfl rfl rfl ?_
  refine k_seq ?_
  refine k_sg ?_
  refine s_run rfl rfl (rmp rfl) ?_
  refine s_run rfl rfl (r_nc rfl) ?_
  refine s_run rfl rfl (r_fa0 rfl fo90_2) ?_
  refine s_run rfl rfl (r_lo H 0 rfl rfl rfl ag4) ?_
  refine s_run rfl rfl (r_notT rfl) ?_
  refine k_nc ?_
  refine k_f rfl ?_
  refine k_skip ?_
  refine c_norm ?_
  refine k_sg ?_
  refine s_run rfl rfl (rmp rfl) ?_
  refine s_run rfl rfl (r_nc rfl) ?_
  refine s_run rfl rfl (r_fa0 rfl fo90_2) ?_
  refine s_st (u := .bool _) H 0 rfl rfl rfl rfl rfl rfl sz4 ?_
  clear H; intro _ H; simp only [jA, jB, jC, jD, jE, jF, jG, jH, jI, jJ, jK, Nat.reduceAdd] at H
  refine k_nc ?_
  refine k_sg ?_
  refine s_run rfl rfl (rmp rfl) ?_
  refine s_run rfl rfl (r_nc rfl) ?_
  refine s_run rfl rfl (r_fa0 rfl fo90_0) ?_
  refine s_run rfl rfl (r_lo H 0 rfl rfl rfl ag87) ?_
  refine s_rm H 1 rfl rfl rfl Try.underlying87 ?_
  intro r _ H'; simp only [List.set_cons_zero, List.set_cons_succ, List.take_succ_cons, List.take_zero, List.drop_succ_cons, List.drop_zero, List.cons_append, List.nil_append, List.append_nil, List.length_cons, List.length_nil, Nat.reduceAdd] at H'; clear H; have H := H'; clear H'
  refine k_nc ?_
  refine k_b ?_
  refine k_loop (fun z f W => ∃ lb cur, z = (mleft lb).length ∧ (lb.map (·.1)).filter keepQ = ls.filter keepQ ∧ (∀ x ∈ lb, x.2 = false → keepQ x.1 = true) ∧ f 0 = ptr p ∧ f 18 = ptr r ∧ Heap w (ids (ckE p b1 b2 A c ⟨ls, ms, true, at0, fs⟩)) [blk p [.map (some b1), .map (some b2), .bool false, .int .i64 at0, .slice A fs.length c] 90, mi kS (Value.int .i64) b1 r lb cur, mp kS Value.bool b2 ms, ownN 3 (.slice A fs.length c) fs.length ((fltN fs).map C1.v) 69] W) _ ⟨ls.map fun p => (p, true), none, rfl, by rw [iter_start], (fun x hx h => by obtain ⟨y, _, rfl⟩ := List.mem_map.1 hx; cases h), rfl, rfl, H⟩ ?_
  clear H
  rintro z f W ⟨lb, cur, rfl, hlb, hdone, f0, f18, H⟩
  obtain ⟨f, rfl⟩ := live2 f0 f18
  clear f0 f18
  by_cases hl : mleft lb = []
  ·refine k_sg ?_
   refine s_nx0 H 1 (hl) rfl rfl rfl ?_
   refine s_run rfl rfl (r_ext (v := .bool _) rfl rfl) ?_
   refine k_nc ?_
   refine k_seq ?_
   refine k_f rfl ?_
   refine k_exit ?_
   refine c_exit ?_
   refine c_exit ?_
   refine b_hit ?_
   refine fin0  rfl ?_
   have H2 := H.mi_done 1 rfl
   have e : lb.map (·.1) = ls.filter keepQ := by
    rw [← hlb]
    exact (List.filter_eq_self.2 fun x hx => by
     obtain ⟨y, hy, rfl⟩ := List.mem_map.1 hx
     exact hdone y hy ((mleft_nil lb).1 hl y hy)).symm
   rw [e] at H2
   exact ⟨rfl, A, c, H2⟩
  ·refine k_sg ?_
   refine s_nx1 H 1 (hl) rfl rfl rfl ?_
   intro j q _ hq gq H'; simp only [List.set_cons_zero, List.set_cons_succ, List.take_succ_cons, List.take_zero, List.drop_succ_cons, List.drop_zero, List.cons_append, List.nil_append, List.append_nil, List.length_cons, List.length_nil, Nat.reduceAdd] at H'; clear H; have H := H'; clear H'
   refine s_run rfl rfl (r_ext (v := .bool _) rfl rfl) ?_
   refine k_nc ?_
   refine k_seq ?_
   refine k_t rfl ?_
   refine k_skip ?_
   refine c_norm ?_
   refine k_b ?_
   refine k_sg ?_
   refine s_run rfl rfl (r_en H 1 rfl rfl) ?_
   refine s_run rfl rfl (r_ext (v := .int _ _) rfl rfl) ?_
   refine s_run rfl rfl (r_ext (v := .int _ _) rfl rfl) ?_
   refine s_run rfl rfl (rai rfl) ?_
   refine s_run rfl rfl (rai rfl) ?_
   refine k_nc ?_
   refine k_seq ?_
   have hnd := H.mi_nd 1 rfl
   have hfs := mset_fst hq
   have hml := mleft_set_len hq
   obtain ⟨q1, q2⟩ := q
   by_cases h2 : q2 = 2
   ·subst h2
    refine k_rg ?_
    refine s_run rfl rfl (rmi rfl) ?_
    refine s_run rfl rfl (r_eqlT rfl rfl (by omega)) ?_
    refine k_nc ?_
    refine k_t rfl ?_
    refine k_rg ?_
    refine s_run rfl rfl (rmp rfl) ?_
    refine s_run rfl rfl (r_nc rfl) ?_
    refine s_run rfl rfl (r_fa0 rfl fo90_0) ?_
    refine s_run rfl rfl (r_lo H 0 rfl rfl rfl ag87) ?_
    refine s_run rfl rfl (rmi rfl) ?_
    refine s_di H 1 rfl rfl rfl rfl (gq) Try.underlying87 ?_
    clear H; intro _ H; simp only [jA, jB, jC, jD, jE, jF, jG, jH, jI, jJ, jK, Nat.reduceAdd] at H
    refine k_nil ?_
    refine b_norm ?_
    refine c_round ?_
    have hml2 := mleft_filter_le (fun x : (Int × Int) × Bool => decide (x.1.1 ≠ q1)) (lb.set j ((q1, 2), false))
    have hqm : (q1, (2 : Int)) ∈ lb.map (·.1) := List.mem_map.2 ⟨_, List.mem_of_getElem? hq, rfl⟩
    refine ⟨_, _, ?_, rfl, _, none, rfl, ?_, fun x hx hx2 => ?_, rfl, rfl, H⟩
    ·omega
    ·rw [bdel_fst, hfs, ← hlb]
     rw [hfs] at hnd
     exact del_keep hnd hqm rfl
    ·obtain ⟨hx, hne⟩ := List.mem_filter.1 hx
     rcases List.mem_or_eq_of_mem_set hx with hx | rfl
     ·exact hdone x hx hx2
     ·simp at hne
   ·refine k_rg ?_
    refine s_run rfl rfl (rmi rfl) ?_
    refine s_run rfl rfl (r_eqlF rfl rfl (by omega)) ?_
    refine k_nc ?_
    refine k_f rfl ?_
    refine k_skip ?_
    refine b_norm ?_
    refine c_round ?_
    refine ⟨_, _, ?_, rfl, _, _, rfl, by rw [hfs]; exact hlb, fun x hx hx2 => ?_, rfl, rfl, H⟩
    ·omega
    ·rcases List.mem_or_eq_of_mem_set hx with hx | rfl
     ·exact hdone x hx hx2
     ·exact decide_eq_true h2
 | false =>
  unfold ckE at H
  refine k_in (N := 31) Try.func41 rfl rfl rfl ?_
  refine k_seq ?_
  refine k_sg ?_
  refine s_run rfl rfl (rmp rfl) ?_
  refine s_run rfl rfl (r_nc rfl) ?_
  refine s_run rfl rfl (r_fa0 rfl fo90_2) ?_
  refine s_run rfl rfl (r_lo H 0 rfl rfl rfl ag4) ?_
  refine s_run rfl rfl (r_notF rfl) ?_
  refine k_nc ?_
  refine k_t rfl ?_
  refine k_rg ?_
  refine s_run rfl rfl (rmp rfl) ?_
  refine s_call rfl (hFl H.ents) (ca40 rfl) ?_
  rintro e W1 ⟨rfl, FA, fc, H'⟩
  refine ⟨_, rfl, ?_⟩
  have H := H.whole H'; clear H'; have H : Heap w (ids (ckE p b1 b2 A c ⟨ls, ms, false, at0, fs⟩)) (ckE p b1 b2 FA fc ⟨ls, ms, false, at0, fs ++ [⟨at0, 0, 4⟩]⟩) _ := H; generalize hfs2 : fs ++ [Flt.mk at0 0 4] = fs2 at H; unfold ckE at H
  refine k_nc ?_
  refine k_sg ?_
  refine s_run rfl rfl (rmp rfl) ?_
  refine s_run rfl rfl (r_nc rfl) ?_
  refine s_run rfl rfl (r_fa0 rfl fo90_2) ?_
  refine s_st (u := .bool _) H 0 rfl rfl rfl rfl rfl rfl sz4 ?_
  clear H; intro _ H; simp only [jA, jB, jC, jD, jE, jF, jG, jH, jI, jJ, jK, Nat.reduceAdd] at H
  refine k_nc ?_
  refine k_sg ?_
  refine s_run rfl rfl (rmp rfl) ?_
  refine s_run rfl rfl (r_nc rfl) ?_
  refine s_run rfl rfl (r_fa0 rfl fo90_0) ?_
  refine s_run rfl rfl (r_lo H 0 rfl rfl rfl ag87) ?_
  refine s_rm H 1 rfl rfl rfl Try.underlying87 ?_
  intro r _ H'; simp only [List.set_cons_zero, List.set_cons_succ, List.take_succ_cons, List.take_zero, List.drop_succ_cons, List.drop_zero, List.cons_append, List.nil_append, List.append_nil, List.length_cons, List.length_nil, Nat.reduceAdd] at H'; clear H; have H := H'; clear H'
  refine k_nc ?_
  refine k_b ?_
  refine k_loop (fun z f W => ∃ lb cur, z = (mleft lb).length ∧ (lb.map (·.1)).filter keepQ = ls.filter keepQ ∧ (∀ x ∈ lb, x.2 = false → keepQ x.1 = true) ∧ f 0 = ptr p ∧ f 18 = ptr r ∧ Heap w (ids (ckE p b1 b2 A c ⟨ls, ms, false, at0, fs⟩)) [blk p [.map (some b1), .map (some b2), .bool false, .int .i64 at0, .slice FA fs2.length fc] 90, mi kS (Value.int .i64) b1 r lb cur, mp kS Value.bool b2 ms, ownN 3 (.slice FA fs2.length fc) fs2.length ((fltN fs2).map C1.v) 69] W) _ ⟨ls.map fun p => (p, true), none, rfl, by rw [iter_start], (fun x hx h => by obtain ⟨y, _, rfl⟩ := List.mem_map.1 hx; cases h), rfl, rfl, H⟩ ?_
  clear H
  rintro z f W ⟨lb, cur, rfl, hlb, hdone, f0, f18, H⟩
  obtain ⟨f, rfl⟩ := live2 f0 f18
  clear f0 f18
  by_cases hl : mleft lb = []
  ·refine k_sg ?_
   refine s_nx0 H 1 (hl) rfl rfl rfl ?_
   refine s_run rfl rfl (r_ext (v := .bool _) rfl rfl) ?_
   refine k_nc ?_
   refine k_seq ?_
   refine k_f rfl ?_
   refine k_exit ?_
   refine c_exit ?_
   refine c_exit ?_
   refine b_hit ?_
   refine fin0  rfl ?_
   have H2 := H.mi_done 1 rfl
   have e : lb.map (·.1) = ls.filter keepQ := by
    rw [← hlb]
    exact (List.filter_eq_self.2 fun x hx => by
     obtain ⟨y, hy, rfl⟩ := List.mem_map.1 hx
     exact hdone y hy ((mleft_nil lb).1 hl y hy)).symm
   rw [e] at H2
   subst hfs2
   exact ⟨rfl, FA, fc, H2⟩
  ·refine k_sg ?_
   refine s_nx1 H 1 (hl) rfl rfl rfl ?_
   intro j q _ hq gq H'; simp only [List.set_cons_zero, List.set_cons_succ, List.take_succ_cons, List.take_zero, List.drop_succ_cons, List.drop_zero, List.cons_append, List.nil_append, List.append_nil, List.length_cons, List.length_nil, Nat.reduceAdd] at H'; clear H; have H := H'; clear H'
   refine s_run rfl rfl (r_ext (v := .bool _) rfl rfl) ?_
   refine k_nc ?_
   refine k_seq ?_
   refine k_t rfl ?_
   refine k_skip ?_
   refine c_norm ?_
   refine k_b ?_
   refine k_sg ?_
   refine s_run rfl rfl (r_en H 1 rfl rfl) ?_
   refine s_run rfl rfl (r_ext (v := .int _ _) rfl rfl) ?_
   refine s_run rfl rfl (r_ext (v := .int _ _) rfl rfl) ?_
   refine s_run rfl rfl (rai rfl) ?_
   refine s_run rfl rfl (rai rfl) ?_
   refine k_nc ?_
   refine k_seq ?_
   have hnd := H.mi_nd 1 rfl
   have hfs := mset_fst hq
   have hml := mleft_set_len hq
   obtain ⟨q1, q2⟩ := q
   by_cases h2 : q2 = 2
   ·subst h2
    refine k_rg ?_
    refine s_run rfl rfl (rmi rfl) ?_
    refine s_run rfl rfl (r_eqlT rfl rfl (by omega)) ?_
    refine k_nc ?_
    refine k_t rfl ?_
    refine k_rg ?_
    refine s_run rfl rfl (rmp rfl) ?_
    refine s_run rfl rfl (r_nc rfl) ?_
    refine s_run rfl rfl (r_fa0 rfl fo90_0) ?_
    refine s_run rfl rfl (r_lo H 0 rfl rfl rfl ag87) ?_
    refine s_run rfl rfl (rmi rfl) ?_
    refine s_di H 1 rfl rfl rfl rfl (gq) Try.underlying87 ?_
    clear H; intro _ H; simp only [jA, jB, jC, jD, jE, jF, jG, jH, jI, jJ, jK, Nat.reduceAdd] at H
    refine k_nil ?_
    refine b_norm ?_
    refine c_round ?_
    have hml2 := mleft_filter_le (fun x : (Int × Int) × Bool => decide (x.1.1 ≠ q1)) (lb.set j ((q1, 2), false))
    have hqm : (q1, (2 : Int)) ∈ lb.map (·.1) := List.mem_map.2 ⟨_, List.mem_of_getElem? hq, rfl⟩
    refine ⟨_, _, ?_, rfl, _, none, rfl, ?_, fun x hx hx2 => ?_, rfl, rfl, H⟩
    ·omega
    ·rw [bdel_fst, hfs, ← hlb]
     rw [hfs] at hnd
     exact del_keep hnd hqm rfl
    ·obtain ⟨hx, hne⟩ := List.mem_filter.1 hx
     rcases List.mem_or_eq_of_mem_set hx with hx | rfl
     ·exact hdone x hx hx2
     ·simp at hne
   ·refine k_rg ?_
    refine s_run rfl rfl (rmi rfl) ?_
    refine s_run rfl rfl (r_eqlF rfl rfl (by omega)) ?_
    refine k_nc ?_
    refine k_f rfl ?_
    refine k_skip ?_
    refine b_norm ?_
    refine c_round ?_
    refine ⟨_, _, ?_, rfl, _, _, rfl, by rw [hfs]; exact hlb, fun x hx hx2 => ?_, rfl, rfl, H⟩
    ·omega
    ·rcases List.mem_or_eq_of_mem_set hx with hx | rfl
     ·exact hdone x hx hx2
     ·exact decide_eq_true h2
end Go.Proofs.Ytpbimgopiammaaa
end

section
namespace Go.Proofs.Ytpbimgopiammaaa
open Go.Sort Go.RowKit
set_option maxRecDepth 100000
def lays189_ren : Go.Shelf.Ren := ⟨fun | 189 => 43 | 125 => 56 | 257 => 55 | 128 => 66 | 129 => 67 | 294 => 57 | 295 => 58 | 296 => 59 | 297 => 60 | 298 => 61 | 299 => 62 | 216 => 63 | 300 => 64 | 301 => 65 | 328 => 68 | 329 => 69 | 330 => 70 | 331 => 71 | 332 => 72 | 215 => 73 | 343 => 74 | n => n, fun | 28 => 22 | 3 => 3 | 46 => 104 | 0 => 0 | 51 => 114 | 53 => 116 | 4 => 4 | 183 => 107 | 182 => 106 | 131 => 84 | 5 => 5 | 9 => 9 | 218 => 117 | 222 => 121 | 228 => 123 | 229 => 124 | n => n, fun | n => n⟩
theorem lays189 : Go.Proofs.Lays.n189 Try.prog lays189_ren := {
  mixed := by kernel_rfl
  f125 := Try.func56.trans (congrArg some (by kernel_rfl))
  f128 := Try.func66.trans (congrArg some (by kernel_rfl))
  f129 := Try.func67.trans (congrArg some (by kernel_rfl))
  f189 := Try.func43.trans (congrArg some (by kernel_rfl))
  f215 := Try.func73.trans (congrArg some (by kernel_rfl))
  f216 := Try.func63.trans (congrArg some (by kernel_rfl))
  f257 := Try.func55.trans (congrArg some (by kernel_rfl))
  f294 := Try.func57.trans (congrArg some (by kernel_rfl))
  f295 := Try.func58.trans (congrArg some (by kernel_rfl))
  f296 := Try.func59.trans (congrArg some (by kernel_rfl))
  f297 := Try.func60.trans (congrArg some (by kernel_rfl))
  f298 := Try.func61.trans (congrArg some (by kernel_rfl))
  f299 := Try.func62.trans (congrArg some (by kernel_rfl))
  f300 := Try.func64.trans (congrArg some (by kernel_rfl))
  f301 := Try.func65.trans (congrArg some (by kernel_rfl))
  f328 := Try.func68.trans (congrArg some (by kernel_rfl))
  f329 := Try.func69.trans (congrArg some (by kernel_rfl))
  f330 := Try.func70.trans (congrArg some (by kernel_rfl))
  f331 := Try.func71.trans (congrArg some (by kernel_rfl))
  f332 := Try.func72.trans (congrArg some (by kernel_rfl))
  f343 := Try.func74.trans (congrArg some (by kernel_rfl))
  t0 := Try.underlying0
  a0 := Try.isAgg0
  z0 := Try.sizeOf0
  v0 := Try.zeroValue0
  t3 := Try.underlying3
  a3 := Try.isAgg3
  z3 := Try.sizeOf3
  v3 := Try.zeroValue3
  t4 := Try.underlying4
  a4 := Try.isAgg4
  z4 := Try.sizeOf4
  v4 := Try.zeroValue4
  t5 := Try.underlying5
  a5 := Try.isAgg5
  z5 := Try.sizeOf5
  v5 := Try.zeroValue5
  t9 := Try.underlying9
  a9 := Try.isAgg9
  z9 := Try.sizeOf9
  v9 := Try.zeroValue9
  t28 := Try.underlying22
  a28 := Try.isAgg22
  z28 := Try.sizeOf22
  v28 := Try.zeroValue22
  t46 := Try.underlying104
  a46 := Try.isAgg104
  z46 := Try.sizeOf104
  v46 := Try.zeroValue104
  t51 := Try.underlying114
  a51 := Try.isAgg114
  z51 := Try.sizeOf114
  v51 := Try.zeroValue114
  t53 := Try.underlying116
  a53 := Try.isAgg116
  z53 := Try.sizeOf116
  v53 := Try.zeroValue116
  t131 := Try.underlying84
  a131 := Try.isAgg84
  z131 := Try.sizeOf84
  v131 := Try.zeroValue84
  t182 := Try.underlying106
  a182 := Try.isAgg106
  z182 := Try.sizeOf106
  v182 := Try.zeroValue106
  t183 := Try.underlying107
  a183 := Try.isAgg107
  z183 := Try.sizeOf107
  v183 := Try.zeroValue107
  t218 := Try.underlying117
  a218 := Try.isAgg117
  z218 := Try.sizeOf117
  v218 := Try.zeroValue117
  t222 := Try.underlying121
  a222 := Try.isAgg121
  z222 := Try.sizeOf121
  v222 := Try.zeroValue121
  t228 := Try.underlying123
  a228 := Try.isAgg123
  z228 := Try.sizeOf123
  v228 := Try.zeroValue123
  t229 := Try.underlying124
  a229 := Try.isAgg124
  z229 := Try.sizeOf124
  v229 := Try.zeroValue124 }
theorem gSort0 (blk off cap : Nat) (zs : List Int) (w : World) (hH : Holds (Value.int .i64) w blk off zs.toArray) (hblk : blk < w.heap.size) (hsz : zs.length < 4611686018427387904) :
  Calls Try.prog 43 #[.slice (some ⟨blk, off, none⟩) zs.length cap] w fun e w' =>
   e = .returned (.tuple #[]) ∧ ∃ n os, w' = grow (putRow (Value.int .i64) (Sort.ahead w n) blk off (zs.mergeSort fun x y => decide (x ≤ y)).toArray) os := Any.slices_Sort_int lays189 blk off cap zs w hH hblk hsz
def srt (l : List Int) : List Int := l.mergeSort fun x y => decide (x ≤ y)
theorem srt_perm (l : List Int) : (srt l).Perm l := List.mergeSort_perm _ _
theorem srt_len (l : List Int) : (srt l).length = l.length := (srt_perm l).length_eq
/-- a row of the call's own is sorted -/
theorem gSort (A : Option Addr) (n c : Nat) (zs : List Int) (T : TypeId) (w : World) (hE : Ents [ownN 1 (.slice A n c) n (zs.map (Value.int .i64)) T] w) (hn : n ≤ 1000000) :
  Calls Try.prog 43 [.slice A n c].toArray w fun e w' => e = .returned (.tuple #[]) ∧ Heap w (ids [ownN 1 (.slice A n c) n (zs.map (Value.int .i64)) T]) [ownN 1 (.slice A n c) n ((srt zs).map (Value.int .i64)) T] w' := by
 have H := Heap.start hE
 have ho := H.own_get 0 rfl
 have hl : zs.length = n := by have := ho.1; simpa using this
 rcases ho.2 with ⟨hv, h0⟩ | ⟨g, cap, cur, hv, _, hg, hnc, hcm, hcs, htk⟩
 ·injection hv with h1 h2 h3
  subst h1; subst h2; subst h3
  have hz : zs = [] := List.eq_nil_of_length_eq_zero hl
  subst hz
  refine (Any.slices_Sort_int_none lays189 none 0 w).mono ?_
  rintro e w' ⟨rfl, rfl⟩
  have e0 : srt [] = [] := by simp [srt]
  rw [e0]
  exact ⟨rfl, H⟩
 ·injection hv with h1 h2 h3
  subst h1; subst h3
  subst hl
  have htk' : cur.toList.take zs.length = zs.map (Value.int .i64) := by rw [Nat.mul_one] at htk; exact htk
  refine (gSort0 g 0 c zs w (holds_of_blockI hg htk') (arr_lt hg) (by omega)).mono ?_
  rintro e w' ⟨rfl, m, os, rfl⟩
  have hs := ownsRow_sortedI (w := w) (base := 0) (n := m) (e := T) (os := os) (ss := zs) (ts := srt zs) (srt_len zs) (Nat.zero_le _) hg hnc hcm hcs
  have hgr : w.grownBy (grow (putRow (Value.int .i64) (Sort.ahead w m) g 0 (srt zs).toArray) os) (some g) := grownBy_sortedI _
  refine ⟨rfl, H.at 0 rfl (F' := [g]) ⟨?_, by simp [ids, ownN, Value.ownBlock], by simp [ids, ownN, Value.ownBlock], ⟨hgr.os, hgr.tape, hgr.output, hgr.size, fun k hk hne => hgr.block k hk (fun e => hne (by injection e with e; rw [e]; simp))⟩⟩ (by simp [ownN, Value.ownBlock])⟩
  intro E hE
  rw [List.mem_singleton.1 hE]
  exact hs
end Go.Proofs.Ytpbimgopiammaaa
end

section
namespace Go.Proofs.Ytpbimgopiammaaa
open Go.RowKit
set_option maxRecDepth 100000
set_option maxHeartbeats 2000000
def Ck.cm1 (s : Ck) (line : Int) : Ck := if mget s.lines line = some 1 then s.fault line 1 else if mget s.lines line = some 2 then s.fault line 2 else s
def Ck.commit (s : Ck) : Ck := { (srt (s.marked.map Prod.fst)).foldl Ck.cm1 s with marked := [] }
theorem cm1_same (s : Ck) (x : Int) : (s.cm1 x).lines = s.lines ∧ (s.cm1 x).marked = s.marked ∧ (s.cm1 x).flush = s.flush ∧ (s.cm1 x).at_ = s.at_ ∧ (s.cm1 x).faults.length ≤ s.faults.length + 1 := by
 unfold Ck.cm1 Ck.fault
 split
 ·exact ⟨rfl, rfl, rfl, rfl, by simp⟩
 ·split
  ·exact ⟨rfl, rfl, rfl, rfl, by simp⟩
  ·exact ⟨rfl, rfl, rfl, rfl, by omega⟩
theorem snoc_foldl {α β : Type} (f : β → α → β) (b : β) (xs : List α) (i : Nat) (x : α) (h : xs[i]? = some x) : (xs.take (i + 1)).foldl f b = f ((xs.take i).foldl f b) x := by
 rw [List.take_add_one, h, List.foldl_append]; rfl
theorem sorted_eq : ∀ {a b : List Int}, a.Perm b → a.Pairwise (· ≤ ·) → b.Pairwise (· ≤ ·) → a = b
 | [], b, h, _, _ => (List.nil_perm.1 h).symm
 | x :: a, [], h, _, _ => by have := h.length_eq; simp at this
 | x :: a, y :: b, h, ha, hb => by
  obtain ⟨a1, a2⟩ := List.pairwise_cons.1 ha
  obtain ⟨b1, b2⟩ := List.pairwise_cons.1 hb
  have e : x = y := by
   have h1 : x ∈ y :: b := h.mem_iff.1 (by simp)
   have h2 : y ∈ x :: a := h.mem_iff.2 (by simp)
   rcases List.mem_cons.1 h1 with h1 | h1
   ·exact h1
   ·rcases List.mem_cons.1 h2 with h2 | h2
    ·exact h2.symm
    ·have := a1 y h2; have := b1 x h1; omega
  subst e
  rw [sorted_eq (List.Perm.cons_inv h) a2 b2]
theorem srt_sorted (l : List Int) : (srt l).Pairwise (· ≤ ·) := by
 have h := List.pairwise_mergeSort (le := fun x y : Int => decide (x ≤ y)) (fun a b c h1 h2 => by simp at *; omega) (fun a b => by simp; omega) l
 exact h.imp fun h => by simpa using h
theorem srt_eq {a b : List Int} (h : a.Perm b) : srt a = srt b := sorted_eq ((srt_perm a).trans (h.trans (srt_perm b).symm)) (srt_sorted a) (srt_sorted b)
theorem Heap.one1 {w0 W : World} {F : List Nat} {L : List Ent} {E : Ent} (H : Heap w0 F L W) (k : Nat) (hk : L[k]? = some E) : Ents [E] W := Heap.part (A := [E]) (H.pick k hk)
theorem oCommit (p b1 b2 : Nat) (A : Option Addr) (c : Nat) (s : Ck) (w : World) (hE : Ents (ckE p b1 b2 A c s) w) (hf : s.faults.length ≤ 500000) (hm : s.marked.length ≤ 100000) :
  Calls Try.prog 42 [ptr p].toArray w fun e w' => e = .returned (.tuple #[]) ∧ ∃ A' c', Heap w (ids (ckE p b1 b2 A c s)) (ckE p b1 b2 A' c' s.commit) w' := by
 have H := Heap.start hE
 unfold ckE at H
 refine k_in (N := 48) Try.func42 rfl rfl rfl ?_
 refine k_sg ?_
 refine s_run rfl rfl (ras rfl) ?_
 refine k_nc ?_
 refine k_seq ?_
 refine k_sg ?_
 refine s_run rfl rfl (rmp rfl) ?_
 refine s_run rfl rfl (r_nc rfl) ?_
 refine s_run rfl rfl (r_fa0 rfl fo90_1) ?_
 refine s_run rfl rfl (r_lo H 0 rfl rfl rfl ag88) ?_
 refine s_rm H 2 rfl rfl rfl Try.underlying88 ?_
 intro r _ H'; simp only [List.set_cons_zero, List.set_cons_succ, List.take_succ_cons, List.take_zero, List.drop_succ_cons, List.drop_zero, List.cons_append, List.nil_append, List.append_nil, List.length_cons, List.length_nil, Nat.reduceAdd] at H'; clear H; have H := H'; clear H'
 refine k_nc ?_
 refine k_b ?_
 replace H := H.own_nil 1 3
 replace H := H.order [1, 2, 3, 4, 0] rfl rfl
 refine k_loop (fun z f W => ∃ (lb : List ((Int × Bool) × Bool)) (cur : Option (Int × Bool)) (OA : Option Addr) (co : Nat) (out : List Int), z = (mleft lb).length ∧ lb.map (·.1) = s.marked ∧ (out ++ (mleft lb).map Prod.fst).Perm (s.marked.map Prod.fst) ∧ (∀ x ∈ out, kS.Gd x) ∧ f 0 = ptr p ∧ f 2 = .slice OA out.length co ∧ f 10 = ptr r ∧ Heap w (ids (ckE p b1 b2 A c s)) [blk p [.map (some b1), .map (some b2), .bool s.flush, .int .i64 s.at_, .slice A s.faults.length c] 90, mp kS (Value.int .i64) b1 s.lines, mi kS Value.bool b2 r lb cur, ownN 3 (.slice A s.faults.length c) s.faults.length ((fltN s.faults).map C1.v) 69, ownN 1 (.slice OA out.length co) out.length (out.map (Value.int .i64)) 3] W) _ ⟨s.marked.map fun p => (p, true), none, none, 0, [], rfl, iter_start _, by rw [mleft_all]; exact List.Perm.refl _, by simp, rfl, rfl, rfl, H⟩ ?_
 clear H
 rintro z f W ⟨lb, cur, OA, co, out, rfl, hlb, hpm, hgd, f0, f2, f10, H⟩
 have hol : out.length ≤ 100000 := by have := hpm.length_eq; simp at this; omega
 obtain ⟨f, rfl⟩ := live3 f0 f2 f10
 clear f0 f2 f10
 by_cases hl : mleft lb = []
 ·refine k_sg ?_
  refine s_nx0 H 2 (hl) rfl rfl rfl ?_
  refine s_run rfl rfl (r_ext (v := .bool _) rfl rfl) ?_
  refine k_nc ?_
  refine k_seq ?_
  refine k_f rfl ?_
  refine k_exit ?_
  refine c_exit ?_
  refine c_exit ?_
  refine b_hit ?_
  refine c_norm ?_
  refine k_seq ?_
  replace H := H.mi_done 2 rfl
  rw [hlb] at H
  rw [hl, List.map_nil, List.append_nil] at hpm
  have hsrt : srt out = srt (s.marked.map Prod.fst) := srt_eq hpm
  have hsl := srt_len out
  have hsg : ∀ x ∈ srt out, kS.Gd x := fun x hx => hgd x ((srt_perm out).mem_iff.1 hx)
  have hS := fun {W : World} hE => gSort OA out.length co out 3 W hE (by omega)
  refine k_rg ?_
  refine s_run rfl rfl (rms rfl) ?_
  refine s_call rfl (hS (H.one1 4 rfl)) (ca43 rfl) ?_
  rintro e W1 ⟨rfl, H'⟩
  refine ⟨_, rfl, ?_⟩
  have H := H.at 4 rfl H' (fun i hi => by simpa [ids] using hi); clear H'
  refine k_nc ?_
  refine k_seq ?_
  refine k_sg ?_
  refine s_run rfl rfl (rms rfl) ?_
  refine s_run rfl rfl (r_len rfl Try.underlying22) ?_
  refine s_run rfl rfl (rmi rfl) ?_
  refine k_nc ?_
  refine k_b ?_
  have hcm : s.commit = { (srt out).foldl Ck.cm1 s with marked := [] } := by unfold Ck.commit; rw [hsrt]
  rw [hcm]
  clear hcm hsrt hS hpm
  generalize srt out = so at *
  refine k_loop (fun z f W => ∃ (i : Nat) (A2 : Option Addr) (c2 : Nat) (u : Ck), i ≤ out.length ∧ z = out.length - i ∧ u = (so.take i).foldl Ck.cm1 s ∧ u.lines = s.lines ∧ u.faults.length ≤ s.faults.length + i ∧ f 0 = ptr p ∧ f 21 = .slice OA out.length co ∧ f 22 = .int .i64 out.length ∧ f 23 = .int .i64 i ∧ Heap w (ids (ckE p b1 b2 A c s)) (ckE p b1 b2 A2 c2 u ++ [ownN 1 (.slice OA out.length co) out.length (so.map (Value.int .i64)) 3]) W) out.length ⟨0, A, c, s, by omega, rfl, rfl, rfl, by omega, rfl, rfl, rfl, rfl, H⟩ ?_
  clear H
  rintro z f W ⟨i, A2, c2, u, hi, rfl, hu, hul, huf, f0, f21, f22, f23, H⟩
  unfold ckE at H
  simp only [List.cons_append, List.nil_append] at H
  by_cases hlt : i < out.length
  ·obtain ⟨y, hy⟩ : ∃ y, so[i]? = some y := ⟨_, List.getElem?_eq_getElem (by omega)⟩
   have gy := hsg y (List.mem_of_getElem? hy)
   have hst := snoc_foldl Ck.cm1 s _ _ _ hy
   rw [← hu] at hst
   obtain ⟨g1, g2, g3, g4, g5⟩ := cm1_same u y
   have hF1 := fun {W : World} hE => oFault p b1 b2 A2 c2 u y 1 W hE (by omega)
   have hF2 := fun {W : World} hE => oFault p b1 b2 A2 c2 u y 2 W hE (by omega)
   obtain ⟨pa, hpa⟩ := H.own_some 4 rfl (by omega)
   rw [hpa] at H f21
   obtain ⟨f, rfl⟩ := live4 f0 f21 f22 f23
   clear f0 f21 f22 f23
   cases hmg : mget s.lines y with
   | none =>
    have e : u.cm1 y = u := by unfold Ck.cm1; rw [hul, hmg]; rfl
    rw [e] at hst
    refine k_sg ?_
    refine s_run rfl rfl (r_lssT rfl rfl (by omega)) ?_
    refine k_nc ?_
    refine k_seq ?_
    refine k_t rfl ?_
    refine k_skip ?_
    refine c_norm ?_
    refine k_seq ?_
    refine k_b ?_
    refine k_sg ?_
    refine s_run rfl rfl (r_ix1 (i := i) rfl rfl (by omega) (by omega) Try.underlying22 sz3) ?_
    refine s_run rfl rfl (r_ow H 4 rfl rfl hy ag3) ?_
    refine s_run rfl rfl (rai rfl) ?_
    refine k_nc ?_
    refine k_sg ?_
    refine s_run rfl rfl (rmp rfl) ?_
    refine s_run rfl rfl (r_nc rfl) ?_
    refine s_run rfl rfl (r_fa0 rfl fo90_0) ?_
    refine s_run rfl rfl (r_lo H 0 rfl rfl rfl ag87) ?_
    refine s_run rfl rfl (rmi rfl) ?_
    refine s_run rfl rfl (r_lkN H 1 rfl rfl rfl (gy) ((by rw [hul]; exact hmg)) Try.underlying87 (zv_of inf92)) ?_
    refine k_nc ?_
    refine k_b ?_
    refine k_sg ?_
    refine s_run rfl rfl (r_eqlF rfl rfl (by omega)) ?_
    refine s_run rfl rfl (rab rfl) ?_
    refine k_nc ?_
    refine k_f rfl ?_
    refine k_sg ?_
    refine s_run rfl rfl (r_eqlF rfl rfl (by omega)) ?_
    refine s_run rfl rfl (rab rfl) ?_
    refine k_nc ?_
    refine k_f rfl ?_
    refine k_skip ?_
    refine b_norm ?_
    refine b_norm ?_
    refine c_norm ?_
    refine k_rg ?_
    refine s_run rfl rfl (r_add rfl rfl (wI (by omega))) ?_
    refine s_run rfl rfl (rmi rfl) ?_
    refine k_nil ?_
    refine c_round ?_
    refine ⟨_, _, ?_, rfl, i + 1, A2, c2, u, by omega, rfl, hst.symm, hul, by omega, rfl, by rw [hpa]; rfl, rfl, rfl, by rw [hpa]; exact H⟩
    omega
   | some v =>
    by_cases h1 : v = 1
    ·subst h1
     have e : u.cm1 y = u.fault y 1 := by unfold Ck.cm1; rw [hul, hmg, if_pos rfl]
     rw [e] at hst g1 g5
     refine k_sg ?_
     refine s_run rfl rfl (r_lssT rfl rfl (by omega)) ?_
     refine k_nc ?_
     refine k_seq ?_
     refine k_t rfl ?_
     refine k_skip ?_
     refine c_norm ?_
     refine k_seq ?_
     refine k_b ?_
     refine k_sg ?_
     refine s_run rfl rfl (r_ix1 (i := i) rfl rfl (by omega) (by omega) Try.underlying22 sz3) ?_
     refine s_run rfl rfl (r_ow H 4 rfl rfl hy ag3) ?_
     refine s_run rfl rfl (rai rfl) ?_
     refine k_nc ?_
     refine k_sg ?_
     refine s_run rfl rfl (rmp rfl) ?_
     refine s_run rfl rfl (r_nc rfl) ?_
     refine s_run rfl rfl (r_fa0 rfl fo90_0) ?_
     refine s_run rfl rfl (r_lo H 0 rfl rfl rfl ag87) ?_
     refine s_run rfl rfl (rmi rfl) ?_
     refine s_run rfl rfl (r_lkS H 1 rfl rfl rfl (gy) ((by rw [hul]; exact hmg)) Try.underlying87 (zv_of inf92) rfl) ?_
     refine k_nc ?_
     refine k_b ?_
     refine k_sg ?_
     refine s_run rfl rfl (r_eqlT rfl rfl (by omega)) ?_
     refine s_run rfl rfl (rab rfl) ?_
     refine k_nc ?_
     refine k_t rfl ?_
     refine k_rg ?_
     refine s_run rfl rfl (rmp rfl) ?_
     refine s_run rfl rfl (rmi rfl) ?_
     refine s_call rfl (hF1 (H.part (A := ckE p b1 b2 A2 c2 u))) (ca40 rfl) ?_
     rintro e W1 ⟨rfl, FA, fc, H'⟩
     refine ⟨_, rfl, ?_⟩
     have H := H.step (A := ckE p b1 b2 A2 c2 u) (L := [_]) H' (fun _ h => h); clear H'
     refine k_nil ?_
     refine b_norm ?_
     refine b_norm ?_
     refine c_norm ?_
     refine k_rg ?_
     refine s_run rfl rfl (r_add rfl rfl (wI (by omega))) ?_
     refine s_run rfl rfl (rmi rfl) ?_
     refine k_nil ?_
     refine c_round ?_
     refine ⟨_, _, ?_, rfl, i + 1, FA, fc, _, by omega, rfl, hst.symm, g1.trans hul, by omega, rfl, by rw [hpa]; rfl, rfl, rfl, by rw [hpa]; exact H⟩
     omega
    ·by_cases h2 : v = 2
     ·subst h2
      have e : u.cm1 y = u.fault y 2 := by unfold Ck.cm1; rw [hul, hmg, if_neg (by simp), if_pos rfl]
      rw [e] at hst g1 g5
      refine k_sg ?_
      refine s_run rfl rfl (r_lssT rfl rfl (by omega)) ?_
      refine k_nc ?_
      refine k_seq ?_
      refine k_t rfl ?_
      refine k_skip ?_
      refine c_norm ?_
      refine k_seq ?_
      refine k_b ?_
      refine k_sg ?_
      refine s_run rfl rfl (r_ix1 (i := i) rfl rfl (by omega) (by omega) Try.underlying22 sz3) ?_
      refine s_run rfl rfl (r_ow H 4 rfl rfl hy ag3) ?_
      refine s_run rfl rfl (rai rfl) ?_
      refine k_nc ?_
      refine k_sg ?_
      refine s_run rfl rfl (rmp rfl) ?_
      refine s_run rfl rfl (r_nc rfl) ?_
      refine s_run rfl rfl (r_fa0 rfl fo90_0) ?_
      refine s_run rfl rfl (r_lo H 0 rfl rfl rfl ag87) ?_
      refine s_run rfl rfl (rmi rfl) ?_
      refine s_run rfl rfl (r_lkS H 1 rfl rfl rfl (gy) ((by rw [hul]; exact hmg)) Try.underlying87 (zv_of inf92) rfl) ?_
      refine k_nc ?_
      refine k_b ?_
      refine k_sg ?_
      refine s_run rfl rfl (r_eqlF rfl rfl (by omega)) ?_
      refine s_run rfl rfl (rab rfl) ?_
      refine k_nc ?_
      refine k_f rfl ?_
      refine k_sg ?_
      refine s_run rfl rfl (r_eqlT rfl rfl (by omega)) ?_
      refine s_run rfl rfl (rab rfl) ?_
      refine k_nc ?_
      refine k_t rfl ?_
      refine k_rg ?_
      refine s_run rfl rfl (rmp rfl) ?_
      refine s_run rfl rfl (rmi rfl) ?_
      refine s_call rfl (hF2 (H.part (A := ckE p b1 b2 A2 c2 u))) (ca40 rfl) ?_
      rintro e W1 ⟨rfl, FA, fc, H'⟩
      refine ⟨_, rfl, ?_⟩
      have H := H.step (A := ckE p b1 b2 A2 c2 u) (L := [_]) H' (fun _ h => h); clear H'
      refine k_nil ?_
      refine b_norm ?_
      refine b_norm ?_
      refine c_norm ?_
      refine k_rg ?_
      refine s_run rfl rfl (r_add rfl rfl (wI (by omega))) ?_
      refine s_run rfl rfl (rmi rfl) ?_
      refine k_nil ?_
      refine c_round ?_
      refine ⟨_, _, ?_, rfl, i + 1, FA, fc, _, by omega, rfl, hst.symm, g1.trans hul, by omega, rfl, by rw [hpa]; rfl, rfl, rfl, by rw [hpa]; exact H⟩
      omega
     ·have e : u.cm1 y = u := by
       unfold Ck.cm1
       rw [hul, hmg, if_neg (fun h => h1 (by injection h)), if_neg (fun h => h2 (by injection h))]
      rw [e] at hst
      refine k_sg ?_
      refine s_run rfl rfl (r_lssT rfl rfl (by omega)) ?_
      refine k_nc ?_
      refine k_seq ?_
      refine k_t rfl ?_
      refine k_skip ?_
      refine c_norm ?_
      refine k_seq ?_
      refine k_b ?_
      refine k_sg ?_
      refine s_run rfl rfl (r_ix1 (i := i) rfl rfl (by omega) (by omega) Try.underlying22 sz3) ?_
      refine s_run rfl rfl (r_ow H 4 rfl rfl hy ag3) ?_
      refine s_run rfl rfl (rai rfl) ?_
      refine k_nc ?_
      refine k_sg ?_
      refine s_run rfl rfl (rmp rfl) ?_
      refine s_run rfl rfl (r_nc rfl) ?_
      refine s_run rfl rfl (r_fa0 rfl fo90_0) ?_
      refine s_run rfl rfl (r_lo H 0 rfl rfl rfl ag87) ?_
      refine s_run rfl rfl (rmi rfl) ?_
      refine s_run rfl rfl (r_lkS H 1 rfl rfl rfl (gy) ((by rw [hul]; exact hmg)) Try.underlying87 (zv_of inf92) rfl) ?_
      refine k_nc ?_
      refine k_b ?_
      refine k_sg ?_
      refine s_run rfl rfl (r_eqlF rfl rfl (by omega)) ?_
      refine s_run rfl rfl (rab rfl) ?_
      refine k_nc ?_
      refine k_f rfl ?_
      refine k_sg ?_
      refine s_run rfl rfl (r_eqlF rfl rfl (by omega)) ?_
      refine s_run rfl rfl (rab rfl) ?_
      refine k_nc ?_
      refine k_f rfl ?_
      refine k_skip ?_
      refine b_norm ?_
      refine b_norm ?_
      refine c_norm ?_
      refine k_rg ?_
      refine s_run rfl rfl (r_add rfl rfl (wI (by omega))) ?_
      refine s_run rfl rfl (rmi rfl) ?_
      refine k_nil ?_
      refine c_round ?_
      refine ⟨_, _, ?_, rfl, i + 1, A2, c2, u, by omega, rfl, hst.symm, hul, by omega, rfl, by rw [hpa]; rfl, rfl, rfl, by rw [hpa]; exact H⟩
      omega
  ·obtain rfl : i = out.length := by omega
   rw [← hsl, List.take_length] at hu
   rw [← hu]
   obtain ⟨f, rfl⟩ := live4 f0 f21 f22 f23
   clear f0 f21 f22 f23
   refine k_sg ?_
   refine s_run rfl rfl (r_lssF rfl rfl (by omega)) ?_
   refine k_nc ?_
   refine k_seq ?_
   refine k_f rfl ?_
   refine k_exit ?_
   refine c_exit ?_
   refine c_exit ?_
   refine b_hit ?_
   refine c_norm ?_
   refine k_rg ?_
   refine s_run rfl rfl (rmp rfl) ?_
   refine s_run rfl rfl (r_nc rfl) ?_
   refine s_run rfl rfl (r_fa0 rfl fo90_1) ?_
   refine s_run rfl rfl (r_lo H 0 rfl rfl rfl ag88) ?_
   refine s_cm H 2 rfl rfl rfl Try.underlying88 ?_
   clear H; intro _ H; simp only [jA, jB, jC, jD, jE, jF, jG, jH, jI, jJ, jK, Nat.reduceAdd] at H
   refine k_nil ?_
   refine fin0  rfl ?_
   exact ⟨rfl, A2, c2, (H : Heap w _ ([_, _, _, _] ++ [_]) _).drops⟩
 ·refine k_sg ?_
  refine s_nx1 H 2 (hl) rfl rfl rfl ?_
  intro j q _ hq gq H'; simp only [List.set_cons_zero, List.set_cons_succ, List.take_succ_cons, List.take_zero, List.drop_succ_cons, List.drop_zero, List.cons_append, List.nil_append, List.append_nil, List.length_cons, List.length_nil, Nat.reduceAdd] at H'; clear H; have H := H'; clear H'
  refine s_run rfl rfl (r_ext (v := .bool _) rfl rfl) ?_
  refine k_nc ?_
  refine k_seq ?_
  refine k_t rfl ?_
  refine k_skip ?_
  refine c_norm ?_
  refine k_b ?_
  refine k_sg ?_
  refine s_run rfl rfl (r_en H 2 rfl rfl) ?_
  refine s_run rfl rfl (r_ext (v := .int _ _) rfl rfl) ?_
  refine s_run rfl rfl (rai rfl) ?_
  refine k_nc ?_
  refine k_rg ?_
  refine s_run rfl rfl (rms rfl) ?_
  refine s_run rfl rfl (rmi rfl) ?_
  refine s_app1 (enc := (Value.int .i64)) H 4 rfl rfl rfl rfl rfl rfl rfl (by omega) Try.underlying22 inf3 rfl ?_
  intro _ An cn _ H'; simp only [List.set_cons_zero, List.set_cons_succ, List.take_succ_cons, List.take_zero, List.drop_succ_cons, List.drop_zero, List.cons_append, List.nil_append, List.append_nil, List.length_cons, List.length_nil, Nat.reduceAdd] at H'; clear H; have H := H'; clear H'
  refine s_run rfl rfl (ras rfl) ?_
  refine k_nil ?_
  refine b_norm ?_
  refine c_round ?_
  have hfs := mset_fst hq
  have hml := mleft_set_len hq
  refine ⟨_, _, ?_, rfl, lb.set j (q, false), some q, An, cn, out ++ [q.1], rfl, by rw [hfs]; exact hlb, ?_, fun x hx => ?_, rfl, by rw [List.length_append]; rfl, rfl, by rw [List.length_append]; exact H⟩
  ·omega
  ·have hp := (mleft_set lb j q hq).map Prod.fst
   rw [List.append_assoc]
   exact (List.Perm.append_left out hp.symm).trans hpm
  ·rcases List.mem_append.1 hx with hx | hx
   ·exact hgd x hx
   ·rw [List.mem_singleton.1 hx]; exact gq
end Go.Proofs.Ytpbimgopiammaaa
end

section
namespace Go.Proofs.Ytpbimgopiammaaa
open Go.RowKit
set_option maxRecDepth 100000
set_option maxHeartbeats 2000000
def Ck.bump (u : Ck) : Ck := { u with at_ := u.at_ + 1 }
def Ck.step (s : Ck) (k n : Int) : Ck :=
 if k < 1 ∨ 5 < k ∨ n < 0 then (s.fault n 5).bump
 else if k = 1 then Ck.bump { s with lines := mput s.lines n 1 }
 else if k = 2 then Ck.bump { (if mget s.lines n = some 1 then { s with lines := mput s.lines n 2 } else s.fault n 3) with flush := true }
 else if k = 3 then s.fence.bump
 else if k = 4 then Ck.bump { s with marked := mput s.marked n true }
 else s.commit.bump
theorem cms_at (s : Ck) : ∀ l : List Int, (l.foldl Ck.cm1 s).at_ = s.at_ := fun l => by
 induction l generalizing s with
 | nil => rfl
 | cons x l ih => rw [List.foldl_cons, ih, (cm1_same s x).2.2.2.1]
theorem oDo (p b1 b2 : Nat) (A : Option Addr) (c : Nat) (s : Ck) (k n : Int) (w : World) (hE : Ents (ckE p b1 b2 A c s) w) (hf : s.faults.length ≤ 400000) (hm : s.marked.length ≤ 100000) (ha : s.at_ ≤ 1000000) (hn : -9223372036854775808 ≤ n ∧ n ≤ 9223372036854775807) :
  Calls Try.prog 19 [ptr p, .agg [.int .i64 k, .int .i64 n].toArray].toArray w fun e w' => e = .returned (.tuple #[]) ∧ ∃ A' c', Heap w (ids (ckE p b1 b2 A c s)) (ckE p b1 b2 A' c' (s.step k n)) w' := by
 have H := Heap.start hE
 have gn : kS.Gd n := hn
 have hF5 := fun {W : World} hE => oFault p b1 b2 A c s n 5 W hE (by omega)
 have hF3 := fun {W : World} hE => oFault p b1 b2 A c s n 3 W hE (by omega)
 have hFe := fun {W : World} hE => oFence p b1 b2 A c s W hE (by omega)
 have hCo := fun {W : World} hE => oCommit p b1 b2 A c s W hE (by omega) hm
 unfold ckE at H
 refine k_in (N := 82) Try.func19 rfl rfl rfl ?_
 refine k_sg ?_
 refine s_box H rfl rfl ?_
 intro p3 _ H'; clear H; have H := H'; clear H'
 refine k_nc ?_
 refine k_seq ?_
 refine k_b ?_
 refine k_seq ?_
 replace H := (H.order [1, 2, 3, 4, 0] rfl rfl : Heap w _ [_, _, _, _, _] _)
 have hat5 : (s.fault n 5).at_ = s.at_ := rfl
 have hat3 : (s.fault n 3).at_ = s.at_ := rfl
 have hatf : s.fence.at_ = s.at_ := by unfold Ck.fence; cases s.flush <;> rfl
 have hatc : s.commit.at_ = s.at_ := cms_at s _
 by_cases h1 : k < 1
 ·
  have e : s.step k n = (s.fault n 5).bump := by unfold Ck.step; rw [if_pos (.inl h1)]
  rw [e]
  refine k_rg ?_
  refine s_run rfl rfl (r_fa0 rfl fo49_0) ?_
  refine s_run rfl rfl (r_lo H 4 rfl rfl rfl ag3) ?_
  refine s_run rfl rfl (r_lssT rfl rfl (by omega)) ?_
  refine s_run rfl rfl (rmb rfl) ?_
  refine s_off rfl (g_off 10 (by kernel_rfl) rfl rfl) ?_
  refine s_off rfl (g_off 10 (by kernel_rfl) rfl rfl) ?_
  refine s_off rfl (g_off 10 (by kernel_rfl) rfl rfl) ?_
  refine s_run rfl rfl (r_pkT (v := .bool _) rfl rfl) ?_
  refine s_run rfl rfl (rmb rfl) ?_
  refine s_off rfl (g_off 15 (by kernel_rfl) rfl rfl) ?_
  refine s_off rfl (g_off 15 (by kernel_rfl) rfl rfl) ?_
  refine s_off rfl (g_off 15 (by kernel_rfl) rfl rfl) ?_
  refine s_run rfl rfl (r_pkT (v := .bool _) rfl rfl) ?_
  refine s_run rfl rfl (rab rfl) ?_
  refine k_nc ?_
  refine k_t rfl ?_
  refine k_rg ?_
  refine s_run rfl rfl (rmp rfl) ?_
  refine s_run rfl rfl (r_fa0 rfl fo49_1) ?_
  refine s_run rfl rfl (r_lo H 4 rfl rfl rfl ag3) ?_
  refine s_call rfl (hF5 (H.part (A := ckE p b1 b2 A c s))) (ca40 rfl) ?_
  rintro e W1 ⟨rfl, FA, fc, H'⟩
  refine ⟨_, rfl, ?_⟩
  have H := H.step (A := ckE p b1 b2 A c s) (L := [_]) H' (fun _ h => h); clear H'; unfold ckE at H; simp only [List.cons_append, List.nil_append] at H
  refine k_nil ?_
  refine b_norm ?_
  refine c_norm ?_
  refine k_rg ?_
  refine s_run rfl rfl (rmp rfl) ?_
  refine s_run rfl rfl (r_nc rfl) ?_
  refine s_run rfl rfl (r_fa0 rfl fo90_3) ?_
  refine s_run rfl rfl (r_lo H 0 rfl rfl rfl ag3) ?_
  refine s_run rfl rfl (r_add rfl rfl (wI (by omega))) ?_
  refine s_run rfl rfl (r_nc rfl) ?_
  refine s_run rfl rfl (r_fa0 rfl fo90_3) ?_
  refine s_st (u := .int _ _) H 0 rfl rfl rfl rfl rfl rfl sz3 ?_
  clear H; intro _ H; simp only [jA, jB, jC, jD, jE, jF, jG, jH, jI, jJ, jK, Nat.reduceAdd] at H
  refine k_nil ?_
  refine fin0  rfl ?_
  exact ⟨rfl, FA, fc, (H : Heap w _ ([_, _, _, _] ++ [_]) _).drops⟩
 by_cases h5 : 5 < k
 ·
  have e : s.step k n = (s.fault n 5).bump := by unfold Ck.step; rw [if_pos (.inr (.inl h5))]
  rw [e]
  refine k_rg ?_
  refine s_run rfl rfl (r_fa0 rfl fo49_0) ?_
  refine s_run rfl rfl (r_lo H 4 rfl rfl rfl ag3) ?_
  refine s_run rfl rfl (r_lssF rfl rfl (by omega)) ?_
  refine s_run rfl rfl (rmb rfl) ?_
  refine s_run rfl (g_on 10 (by kernel_rfl) rfl) (r_fa0 rfl fo49_0) ?_
  refine s_run rfl (g_on 10 (by kernel_rfl) rfl) (r_lo H 4 rfl rfl rfl ag3) ?_
  refine s_run rfl (g_on 10 (by kernel_rfl) rfl) (r_gtrT rfl rfl (by omega)) ?_
  refine s_run rfl rfl (r_pkF (v := .bool _) rfl rfl) ?_
  refine s_run rfl rfl (rmb rfl) ?_
  refine s_off rfl (g_off 15 (by kernel_rfl) rfl rfl) ?_
  refine s_off rfl (g_off 15 (by kernel_rfl) rfl rfl) ?_
  refine s_off rfl (g_off 15 (by kernel_rfl) rfl rfl) ?_
  refine s_run rfl rfl (r_pkT (v := .bool _) rfl rfl) ?_
  refine s_run rfl rfl (rab rfl) ?_
  refine k_nc ?_
  refine k_t rfl ?_
  refine k_rg ?_
  refine s_run rfl rfl (rmp rfl) ?_
  refine s_run rfl rfl (r_fa0 rfl fo49_1) ?_
  refine s_run rfl rfl (r_lo H 4 rfl rfl rfl ag3) ?_
  refine s_call rfl (hF5 (H.part (A := ckE p b1 b2 A c s))) (ca40 rfl) ?_
  rintro e W1 ⟨rfl, FA, fc, H'⟩
  refine ⟨_, rfl, ?_⟩
  have H := H.step (A := ckE p b1 b2 A c s) (L := [_]) H' (fun _ h => h); clear H'; unfold ckE at H; simp only [List.cons_append, List.nil_append] at H
  refine k_nil ?_
  refine b_norm ?_
  refine c_norm ?_
  refine k_rg ?_
  refine s_run rfl rfl (rmp rfl) ?_
  refine s_run rfl rfl (r_nc rfl) ?_
  refine s_run rfl rfl (r_fa0 rfl fo90_3) ?_
  refine s_run rfl rfl (r_lo H 0 rfl rfl rfl ag3) ?_
  refine s_run rfl rfl (r_add rfl rfl (wI (by omega))) ?_
  refine s_run rfl rfl (r_nc rfl) ?_
  refine s_run rfl rfl (r_fa0 rfl fo90_3) ?_
  refine s_st (u := .int _ _) H 0 rfl rfl rfl rfl rfl rfl sz3 ?_
  clear H; intro _ H; simp only [jA, jB, jC, jD, jE, jF, jG, jH, jI, jJ, jK, Nat.reduceAdd] at H
  refine k_nil ?_
  refine fin0  rfl ?_
  exact ⟨rfl, FA, fc, (H : Heap w _ ([_, _, _, _] ++ [_]) _).drops⟩
 by_cases h0 : n < 0
 ·
  have e : s.step k n = (s.fault n 5).bump := by unfold Ck.step; rw [if_pos (.inr (.inr h0))]
  rw [e]
  refine k_rg ?_
  refine s_run rfl rfl (r_fa0 rfl fo49_0) ?_
  refine s_run rfl rfl (r_lo H 4 rfl rfl rfl ag3) ?_
  refine s_run rfl rfl (r_lssF rfl rfl (by omega)) ?_
  refine s_run rfl rfl (rmb rfl) ?_
  refine s_run rfl (g_on 10 (by kernel_rfl) rfl) (r_fa0 rfl fo49_0) ?_
  refine s_run rfl (g_on 10 (by kernel_rfl) rfl) (r_lo H 4 rfl rfl rfl ag3) ?_
  refine s_run rfl (g_on 10 (by kernel_rfl) rfl) (r_gtrF rfl rfl (by omega)) ?_
  refine s_run rfl rfl (r_pkF (v := .bool _) rfl rfl) ?_
  refine s_run rfl rfl (rmb rfl) ?_
  refine s_run rfl (g_on 15 (by kernel_rfl) rfl) (r_fa0 rfl fo49_1) ?_
  refine s_run rfl (g_on 15 (by kernel_rfl) rfl) (r_lo H 4 rfl rfl rfl ag3) ?_
  refine s_run rfl (g_on 15 (by kernel_rfl) rfl) (r_lssT rfl rfl (by omega)) ?_
  refine s_run rfl rfl (r_pkF (v := .bool _) rfl rfl) ?_
  refine s_run rfl rfl (rab rfl) ?_
  refine k_nc ?_
  refine k_t rfl ?_
  refine k_rg ?_
  refine s_run rfl rfl (rmp rfl) ?_
  refine s_run rfl rfl (r_fa0 rfl fo49_1) ?_
  refine s_run rfl rfl (r_lo H 4 rfl rfl rfl ag3) ?_
  refine s_call rfl (hF5 (H.part (A := ckE p b1 b2 A c s))) (ca40 rfl) ?_
  rintro e W1 ⟨rfl, FA, fc, H'⟩
  refine ⟨_, rfl, ?_⟩
  have H := H.step (A := ckE p b1 b2 A c s) (L := [_]) H' (fun _ h => h); clear H'; unfold ckE at H; simp only [List.cons_append, List.nil_append] at H
  refine k_nil ?_
  refine b_norm ?_
  refine c_norm ?_
  refine k_rg ?_
  refine s_run rfl rfl (rmp rfl) ?_
  refine s_run rfl rfl (r_nc rfl) ?_
  refine s_run rfl rfl (r_fa0 rfl fo90_3) ?_
  refine s_run rfl rfl (r_lo H 0 rfl rfl rfl ag3) ?_
  refine s_run rfl rfl (r_add rfl rfl (wI (by omega))) ?_
  refine s_run rfl rfl (r_nc rfl) ?_
  refine s_run rfl rfl (r_fa0 rfl fo90_3) ?_
  refine s_st (u := .int _ _) H 0 rfl rfl rfl rfl rfl rfl sz3 ?_
  clear H; intro _ H; simp only [jA, jB, jC, jD, jE, jF, jG, jH, jI, jJ, jK, Nat.reduceAdd] at H
  refine k_nil ?_
  refine fin0  rfl ?_
  exact ⟨rfl, FA, fc, (H : Heap w _ ([_, _, _, _] ++ [_]) _).drops⟩
 have hok : ¬ (k < 1 ∨ 5 < k ∨ n < 0) := fun h => by omega
 unfold Ck.step
 rw [if_neg hok]
 by_cases k1 : k = 1
 ·rw [if_pos k1]
  refine k_rg ?_
  refine s_run rfl rfl (r_fa0 rfl fo49_0) ?_
  refine s_run rfl rfl (r_lo H 4 rfl rfl rfl ag3) ?_
  refine s_run rfl rfl (r_lssF rfl rfl (by omega)) ?_
  refine s_run rfl rfl (rmb rfl) ?_
  refine s_run rfl (g_on 10 (by kernel_rfl) rfl) (r_fa0 rfl fo49_0) ?_
  refine s_run rfl (g_on 10 (by kernel_rfl) rfl) (r_lo H 4 rfl rfl rfl ag3) ?_
  refine s_run rfl (g_on 10 (by kernel_rfl) rfl) (r_gtrF rfl rfl (by omega)) ?_
  refine s_run rfl rfl (r_pkF (v := .bool _) rfl rfl) ?_
  refine s_run rfl rfl (rmb rfl) ?_
  refine s_run rfl (g_on 15 (by kernel_rfl) rfl) (r_fa0 rfl fo49_1) ?_
  refine s_run rfl (g_on 15 (by kernel_rfl) rfl) (r_lo H 4 rfl rfl rfl ag3) ?_
  refine s_run rfl (g_on 15 (by kernel_rfl) rfl) (r_lssF rfl rfl (by omega)) ?_
  refine s_run rfl rfl (r_pkF (v := .bool _) rfl rfl) ?_
  refine s_run rfl rfl (rab rfl) ?_
  refine k_nc ?_
  refine k_f rfl ?_
  refine k_sg ?_
  refine s_run rfl rfl (r_fa0 rfl fo49_0) ?_
  refine s_run rfl rfl (r_lo H 4 rfl rfl rfl ag3) ?_
  refine s_run rfl rfl (r_eqlT rfl rfl (by omega)) ?_
  refine s_run rfl rfl (rab rfl) ?_
  refine k_nc ?_
  refine k_t rfl ?_
  refine k_qt 6 mixed (by kernel_rfl) H rfl rfl ?_
  refine q_run rfl rfl (fun _ H => r_mv (v := .pointer _) rfl) ?_
  refine q_run rfl rfl (fun _ H => r_nc rfl) ?_
  refine q_run rfl rfl (fun _ H => r_fa0 rfl fo90_0) ?_
  refine q_run rfl rfl (fun _ H => r_lo H 0 rfl rfl rfl ag87) ?_
  refine q_run rfl rfl (fun _ H => r_fa0 rfl fo49_1) ?_
  refine q_run rfl rfl (fun _ H => r_lo H 4 rfl rfl rfl ag3) ?_
  refine q_nil ?_
  intro _ H'; clear H; have H := H'; clear H'
  refine s_mu H 1 rfl rfl rfl rfl rfl (gn) Try.underlying87 ?_
  clear H; intro _ H; simp only [jA, jB, jC, jD, jE, jF, jG, jH, jI, jJ, jK, Nat.reduceAdd] at H
  refine k_nil ?_
  refine b_norm ?_
  refine c_norm ?_
  refine k_rg ?_
  refine s_run rfl rfl (rmp rfl) ?_
  refine s_run rfl rfl (r_nc rfl) ?_
  refine s_run rfl rfl (r_fa0 rfl fo90_3) ?_
  refine s_run rfl rfl (r_lo H 0 rfl rfl rfl ag3) ?_
  refine s_run rfl rfl (r_add rfl rfl (wI (by omega))) ?_
  refine s_run rfl rfl (r_nc rfl) ?_
  refine s_run rfl rfl (r_fa0 rfl fo90_3) ?_
  refine s_st (u := .int _ _) H 0 rfl rfl rfl rfl rfl rfl sz3 ?_
  clear H; intro _ H; simp only [jA, jB, jC, jD, jE, jF, jG, jH, jI, jJ, jK, Nat.reduceAdd] at H
  refine k_nil ?_
  refine fin0  rfl ?_
  exact ⟨rfl, A, c, (H : Heap w _ ([_, _, _, _] ++ [_]) _).drops⟩
 rw [if_neg k1]
 by_cases k2 : k = 2
 ·rw [if_pos k2]
  cases hmg : mget s.lines n with
  | none =>
   rw [if_neg (by simp)]
   refine k_rg ?_
   refine s_run rfl rfl (r_fa0 rfl fo49_0) ?_
   refine s_run rfl rfl (r_lo H 4 rfl rfl rfl ag3) ?_
   refine s_run rfl rfl (r_lssF rfl rfl (by omega)) ?_
   refine s_run rfl rfl (rmb rfl) ?_
   refine s_run rfl (g_on 10 (by kernel_rfl) rfl) (r_fa0 rfl fo49_0) ?_
   refine s_run rfl (g_on 10 (by kernel_rfl) rfl) (r_lo H 4 rfl rfl rfl ag3) ?_
   refine s_run rfl (g_on 10 (by kernel_rfl) rfl) (r_gtrF rfl rfl (by omega)) ?_
   refine s_run rfl rfl (r_pkF (v := .bool _) rfl rfl) ?_
   refine s_run rfl rfl (rmb rfl) ?_
   refine s_run rfl (g_on 15 (by kernel_rfl) rfl) (r_fa0 rfl fo49_1) ?_
   refine s_run rfl (g_on 15 (by kernel_rfl) rfl) (r_lo H 4 rfl rfl rfl ag3) ?_
   refine s_run rfl (g_on 15 (by kernel_rfl) rfl) (r_lssF rfl rfl (by omega)) ?_
   refine s_run rfl rfl (r_pkF (v := .bool _) rfl rfl) ?_
   refine s_run rfl rfl (rab rfl) ?_
   refine k_nc ?_
   refine k_f rfl ?_
   refine k_sg ?_
   refine s_run rfl rfl (r_fa0 rfl fo49_0) ?_
   refine s_run rfl rfl (r_lo H 4 rfl rfl rfl ag3) ?_
   refine s_run rfl rfl (r_eqlF rfl rfl (by omega)) ?_
   refine s_run rfl rfl (rab rfl) ?_
   refine k_nc ?_
   refine k_f rfl ?_
   refine k_sg ?_
   refine s_run rfl rfl (r_fa0 rfl fo49_0) ?_
   refine s_run rfl rfl (r_lo H 4 rfl rfl rfl ag3) ?_
   refine s_run rfl rfl (r_eqlT rfl rfl (by omega)) ?_
   refine s_run rfl rfl (rab rfl) ?_
   refine k_nc ?_
   refine k_t rfl ?_
   refine k_seq ?_
   refine k_seq ?_
   refine k_q mixed (by kernel_rfl) H ?_
   refine q_run rfl rfl (fun _ H => r_mv (v := .pointer _) rfl) ?_
   refine q_run rfl rfl (fun _ H => r_nc rfl) ?_
   refine q_run rfl rfl (fun _ H => r_fa0 rfl fo90_0) ?_
   refine q_run rfl rfl (fun _ H => r_lo H 0 rfl rfl rfl ag87) ?_
   refine q_run rfl rfl (fun _ H => r_fa0 rfl fo49_1) ?_
   refine q_run rfl rfl (fun _ H => r_lo H 4 rfl rfl rfl ag3) ?_
   refine q_run rfl rfl (fun _ H => r_lkN H 1 rfl rfl rfl (gn) (hmg) Try.underlying87 (zv_of inf92)) ?_
   refine q_run rfl rfl (fun _ H => r_eqlF rfl rfl (by omega)) ?_
   refine q_nil ?_
   intro _ H'; clear H; have H := H'; clear H'
   refine c_norm ?_
   refine k_f rfl ?_
   refine k_rg ?_
   refine s_run rfl rfl (rmp rfl) ?_
   refine s_run rfl rfl (r_fa0 rfl fo49_1) ?_
   refine s_run rfl rfl (r_lo H 4 rfl rfl rfl ag3) ?_
   refine s_call rfl (hF3 (H.part (A := ckE p b1 b2 A c s))) (ca40 rfl) ?_
   rintro e W1 ⟨rfl, FA, fc, H'⟩
   refine ⟨_, rfl, ?_⟩
   have H := H.step (A := ckE p b1 b2 A c s) (L := [_]) H' (fun _ h => h); clear H'; unfold ckE at H; simp only [List.cons_append, List.nil_append] at H
   refine k_nc ?_
   refine k_rg ?_
   refine s_run rfl rfl (rmp rfl) ?_
   refine s_run rfl rfl (r_nc rfl) ?_
   refine s_run rfl rfl (r_fa0 rfl fo90_2) ?_
   refine s_st (u := .bool _) H 0 rfl rfl rfl rfl rfl rfl sz4 ?_
   clear H; intro _ H; simp only [jA, jB, jC, jD, jE, jF, jG, jH, jI, jJ, jK, Nat.reduceAdd] at H
   refine k_nil ?_
   refine b_norm ?_
   refine c_norm ?_
   refine k_rg ?_
   refine s_run rfl rfl (rmp rfl) ?_
   refine s_run rfl rfl (r_nc rfl) ?_
   refine s_run rfl rfl (r_fa0 rfl fo90_3) ?_
   refine s_run rfl rfl (r_lo H 0 rfl rfl rfl ag3) ?_
   refine s_run rfl rfl (r_add rfl rfl (wI (by omega))) ?_
   refine s_run rfl rfl (r_nc rfl) ?_
   refine s_run rfl rfl (r_fa0 rfl fo90_3) ?_
   refine s_st (u := .int _ _) H 0 rfl rfl rfl rfl rfl rfl sz3 ?_
   clear H; intro _ H; simp only [jA, jB, jC, jD, jE, jF, jG, jH, jI, jJ, jK, Nat.reduceAdd] at H
   refine k_nil ?_
   refine fin0  rfl ?_
   exact ⟨rfl, FA, fc, (H : Heap w _ ([_, _, _, _] ++ [_]) _).drops⟩
  | some v =>
   by_cases hv : v = 1
   ·subst hv
    rw [if_pos rfl]
    refine k_rg ?_
    refine s_run rfl rfl (r_fa0 rfl fo49_0) ?_
    refine s_run rfl rfl (r_lo H 4 rfl rfl rfl ag3) ?_
    refine s_run rfl rfl (r_lssF rfl rfl (by omega)) ?_
    refine s_run rfl rfl (rmb rfl) ?_
    refine s_run rfl (g_on 10 (by kernel_rfl) rfl) (r_fa0 rfl fo49_0) ?_
    refine s_run rfl (g_on 10 (by kernel_rfl) rfl) (r_lo H 4 rfl rfl rfl ag3) ?_
    refine s_run rfl (g_on 10 (by kernel_rfl) rfl) (r_gtrF rfl rfl (by omega)) ?_
    refine s_run rfl rfl (r_pkF (v := .bool _) rfl rfl) ?_
    refine s_run rfl rfl (rmb rfl) ?_
    refine s_run rfl (g_on 15 (by kernel_rfl) rfl) (r_fa0 rfl fo49_1) ?_
    refine s_run rfl (g_on 15 (by kernel_rfl) rfl) (r_lo H 4 rfl rfl rfl ag3) ?_
    refine s_run rfl (g_on 15 (by kernel_rfl) rfl) (r_lssF rfl rfl (by omega)) ?_
    refine s_run rfl rfl (r_pkF (v := .bool _) rfl rfl) ?_
    refine s_run rfl rfl (rab rfl) ?_
    refine k_nc ?_
    refine k_f rfl ?_
    refine k_sg ?_
    refine s_run rfl rfl (r_fa0 rfl fo49_0) ?_
    refine s_run rfl rfl (r_lo H 4 rfl rfl rfl ag3) ?_
    refine s_run rfl rfl (r_eqlF rfl rfl (by omega)) ?_
    refine s_run rfl rfl (rab rfl) ?_
    refine k_nc ?_
    refine k_f rfl ?_
    refine k_sg ?_
    refine s_run rfl rfl (r_fa0 rfl fo49_0) ?_
    refine s_run rfl rfl (r_lo H 4 rfl rfl rfl ag3) ?_
    refine s_run rfl rfl (r_eqlT rfl rfl (by omega)) ?_
    refine s_run rfl rfl (rab rfl) ?_
    refine k_nc ?_
    refine k_t rfl ?_
    refine k_seq ?_
    refine k_seq ?_
    refine k_q mixed (by kernel_rfl) H ?_
    refine q_run rfl rfl (fun _ H => r_mv (v := .pointer _) rfl) ?_
    refine q_run rfl rfl (fun _ H => r_nc rfl) ?_
    refine q_run rfl rfl (fun _ H => r_fa0 rfl fo90_0) ?_
    refine q_run rfl rfl (fun _ H => r_lo H 0 rfl rfl rfl ag87) ?_
    refine q_run rfl rfl (fun _ H => r_fa0 rfl fo49_1) ?_
    refine q_run rfl rfl (fun _ H => r_lo H 4 rfl rfl rfl ag3) ?_
    refine q_run rfl rfl (fun _ H => r_lkS H 1 rfl rfl rfl (gn) (hmg) Try.underlying87 (zv_of inf92) rfl) ?_
    refine q_run rfl rfl (fun _ H => r_eqlT rfl rfl (by omega)) ?_
    refine q_nil ?_
    intro _ H'; clear H; have H := H'; clear H'
    refine c_norm ?_
    refine k_t rfl ?_
    refine k_qt 6 mixed (by kernel_rfl) H rfl rfl ?_
    refine q_run rfl rfl (fun _ H => r_mv (v := .pointer _) rfl) ?_
    refine q_run rfl rfl (fun _ H => r_nc rfl) ?_
    refine q_run rfl rfl (fun _ H => r_fa0 rfl fo90_0) ?_
    refine q_run rfl rfl (fun _ H => r_lo H 0 rfl rfl rfl ag87) ?_
    refine q_run rfl rfl (fun _ H => r_fa0 rfl fo49_1) ?_
    refine q_run rfl rfl (fun _ H => r_lo H 4 rfl rfl rfl ag3) ?_
    refine q_nil ?_
    intro _ H'; clear H; have H := H'; clear H'
    refine s_mu H 1 rfl rfl rfl rfl rfl (gn) Try.underlying87 ?_
    clear H; intro _ H; simp only [jA, jB, jC, jD, jE, jF, jG, jH, jI, jJ, jK, Nat.reduceAdd] at H
    refine k_nc ?_
    refine k_rg ?_
    refine s_run rfl rfl (rmp rfl) ?_
    refine s_run rfl rfl (r_nc rfl) ?_
    refine s_run rfl rfl (r_fa0 rfl fo90_2) ?_
    refine s_st (u := .bool _) H 0 rfl rfl rfl rfl rfl rfl sz4 ?_
    clear H; intro _ H; simp only [jA, jB, jC, jD, jE, jF, jG, jH, jI, jJ, jK, Nat.reduceAdd] at H
    refine k_nil ?_
    refine b_norm ?_
    refine c_norm ?_
    refine k_rg ?_
    refine s_run rfl rfl (rmp rfl) ?_
    refine s_run rfl rfl (r_nc rfl) ?_
    refine s_run rfl rfl (r_fa0 rfl fo90_3) ?_
    refine s_run rfl rfl (r_lo H 0 rfl rfl rfl ag3) ?_
    refine s_run rfl rfl (r_add rfl rfl (wI (by omega))) ?_
    refine s_run rfl rfl (r_nc rfl) ?_
    refine s_run rfl rfl (r_fa0 rfl fo90_3) ?_
    refine s_st (u := .int _ _) H 0 rfl rfl rfl rfl rfl rfl sz3 ?_
    clear H; intro _ H; simp only [jA, jB, jC, jD, jE, jF, jG, jH, jI, jJ, jK, Nat.reduceAdd] at H
    refine k_nil ?_
    refine fin0  rfl ?_
    exact ⟨rfl, A, c, (H : Heap w _ ([_, _, _, _] ++ [_]) _).drops⟩
   ·rw [if_neg (fun h => hv (by injection h))]
    refine k_rg ?_
    refine s_run rfl rfl (r_fa0 rfl fo49_0) ?_
    refine s_run rfl rfl (r_lo H 4 rfl rfl rfl ag3) ?_
    refine s_run rfl rfl (r_lssF rfl rfl (by omega)) ?_
    refine s_run rfl rfl (rmb rfl) ?_
    refine s_run rfl (g_on 10 (by kernel_rfl) rfl) (r_fa0 rfl fo49_0) ?_
    refine s_run rfl (g_on 10 (by kernel_rfl) rfl) (r_lo H 4 rfl rfl rfl ag3) ?_
    refine s_run rfl (g_on 10 (by kernel_rfl) rfl) (r_gtrF rfl rfl (by omega)) ?_
    refine s_run rfl rfl (r_pkF (v := .bool _) rfl rfl) ?_
    refine s_run rfl rfl (rmb rfl) ?_
    refine s_run rfl (g_on 15 (by kernel_rfl) rfl) (r_fa0 rfl fo49_1) ?_
    refine s_run rfl (g_on 15 (by kernel_rfl) rfl) (r_lo H 4 rfl rfl rfl ag3) ?_
    refine s_run rfl (g_on 15 (by kernel_rfl) rfl) (r_lssF rfl rfl (by omega)) ?_
    refine s_run rfl rfl (r_pkF (v := .bool _) rfl rfl) ?_
    refine s_run rfl rfl (rab rfl) ?_
    refine k_nc ?_
    refine k_f rfl ?_
    refine k_sg ?_
    refine s_run rfl rfl (r_fa0 rfl fo49_0) ?_
    refine s_run rfl rfl (r_lo H 4 rfl rfl rfl ag3) ?_
    refine s_run rfl rfl (r_eqlF rfl rfl (by omega)) ?_
    refine s_run rfl rfl (rab rfl) ?_
    refine k_nc ?_
    refine k_f rfl ?_
    refine k_sg ?_
    refine s_run rfl rfl (r_fa0 rfl fo49_0) ?_
    refine s_run rfl rfl (r_lo H 4 rfl rfl rfl ag3) ?_
    refine s_run rfl rfl (r_eqlT rfl rfl (by omega)) ?_
    refine s_run rfl rfl (rab rfl) ?_
    refine k_nc ?_
    refine k_t rfl ?_
    refine k_seq ?_
    refine k_seq ?_
    refine k_q mixed (by kernel_rfl) H ?_
    refine q_run rfl rfl (fun _ H => r_mv (v := .pointer _) rfl) ?_
    refine q_run rfl rfl (fun _ H => r_nc rfl) ?_
    refine q_run rfl rfl (fun _ H => r_fa0 rfl fo90_0) ?_
    refine q_run rfl rfl (fun _ H => r_lo H 0 rfl rfl rfl ag87) ?_
    refine q_run rfl rfl (fun _ H => r_fa0 rfl fo49_1) ?_
    refine q_run rfl rfl (fun _ H => r_lo H 4 rfl rfl rfl ag3) ?_
    refine q_run rfl rfl (fun _ H => r_lkS H 1 rfl rfl rfl (gn) (hmg) Try.underlying87 (zv_of inf92) rfl) ?_
    refine q_run rfl rfl (fun _ H => r_eqlF rfl rfl (by omega)) ?_
    refine q_nil ?_
    intro _ H'; clear H; have H := H'; clear H'
    refine c_norm ?_
    refine k_f rfl ?_
    refine k_rg ?_
    refine s_run rfl rfl (rmp rfl) ?_
    refine s_run rfl rfl (r_fa0 rfl fo49_1) ?_
    refine s_run rfl rfl (r_lo H 4 rfl rfl rfl ag3) ?_
    refine s_call rfl (hF3 (H.part (A := ckE p b1 b2 A c s))) (ca40 rfl) ?_
    rintro e W1 ⟨rfl, FA, fc, H'⟩
    refine ⟨_, rfl, ?_⟩
    have H := H.step (A := ckE p b1 b2 A c s) (L := [_]) H' (fun _ h => h); clear H'; unfold ckE at H; simp only [List.cons_append, List.nil_append] at H
    refine k_nc ?_
    refine k_rg ?_
    refine s_run rfl rfl (rmp rfl) ?_
    refine s_run rfl rfl (r_nc rfl) ?_
    refine s_run rfl rfl (r_fa0 rfl fo90_2) ?_
    refine s_st (u := .bool _) H 0 rfl rfl rfl rfl rfl rfl sz4 ?_
    clear H; intro _ H; simp only [jA, jB, jC, jD, jE, jF, jG, jH, jI, jJ, jK, Nat.reduceAdd] at H
    refine k_nil ?_
    refine b_norm ?_
    refine c_norm ?_
    refine k_rg ?_
    refine s_run rfl rfl (rmp rfl) ?_
    refine s_run rfl rfl (r_nc rfl) ?_
    refine s_run rfl rfl (r_fa0 rfl fo90_3) ?_
    refine s_run rfl rfl (r_lo H 0 rfl rfl rfl ag3) ?_
    refine s_run rfl rfl (r_add rfl rfl (wI (by omega))) ?_
    refine s_run rfl rfl (r_nc rfl) ?_
    refine s_run rfl rfl (r_fa0 rfl fo90_3) ?_
    refine s_st (u := .int _ _) H 0 rfl rfl rfl rfl rfl rfl sz3 ?_
    clear H; intro _ H; simp only [jA, jB, jC, jD, jE, jF, jG, jH, jI, jJ, jK, Nat.reduceAdd] at H
    refine k_nil ?_
    refine fin0  rfl ?_
    exact ⟨rfl, FA, fc, (H : Heap w _ ([_, _, _, _] ++ [_]) _).drops⟩
 rw [if_neg k2]
 by_cases k3 : k = 3
 ·rw [if_pos k3]
  generalize s.fence = u at *
  refine k_rg ?_
  refine s_run rfl rfl (r_fa0 rfl fo49_0) ?_
  refine s_run rfl rfl (r_lo H 4 rfl rfl rfl ag3) ?_
  refine s_run rfl rfl (r_lssF rfl rfl (by omega)) ?_
  refine s_run rfl rfl (rmb rfl) ?_
  refine s_run rfl (g_on 10 (by kernel_rfl) rfl) (r_fa0 rfl fo49_0) ?_
  refine s_run rfl (g_on 10 (by kernel_rfl) rfl) (r_lo H 4 rfl rfl rfl ag3) ?_
  refine s_run rfl (g_on 10 (by kernel_rfl) rfl) (r_gtrF rfl rfl (by omega)) ?_
  refine s_run rfl rfl (r_pkF (v := .bool _) rfl rfl) ?_
  refine s_run rfl rfl (rmb rfl) ?_
  refine s_run rfl (g_on 15 (by kernel_rfl) rfl) (r_fa0 rfl fo49_1) ?_
  refine s_run rfl (g_on 15 (by kernel_rfl) rfl) (r_lo H 4 rfl rfl rfl ag3) ?_
  refine s_run rfl (g_on 15 (by kernel_rfl) rfl) (r_lssF rfl rfl (by omega)) ?_
  refine s_run rfl rfl (r_pkF (v := .bool _) rfl rfl) ?_
  refine s_run rfl rfl (rab rfl) ?_
  refine k_nc ?_
  refine k_f rfl ?_
  refine k_sg ?_
  refine s_run rfl rfl (r_fa0 rfl fo49_0) ?_
  refine s_run rfl rfl (r_lo H 4 rfl rfl rfl ag3) ?_
  refine s_run rfl rfl (r_eqlF rfl rfl (by omega)) ?_
  refine s_run rfl rfl (rab rfl) ?_
  refine k_nc ?_
  refine k_f rfl ?_
  refine k_sg ?_
  refine s_run rfl rfl (r_fa0 rfl fo49_0) ?_
  refine s_run rfl rfl (r_lo H 4 rfl rfl rfl ag3) ?_
  refine s_run rfl rfl (r_eqlF rfl rfl (by omega)) ?_
  refine s_run rfl rfl (rab rfl) ?_
  refine k_nc ?_
  refine k_f rfl ?_
  refine k_sg ?_
  refine s_run rfl rfl (r_fa0 rfl fo49_0) ?_
  refine s_run rfl rfl (r_lo H 4 rfl rfl rfl ag3) ?_
  refine s_run rfl rfl (r_eqlT rfl rfl (by omega)) ?_
  refine s_run rfl rfl (rab rfl) ?_
  refine k_nc ?_
  refine k_t rfl ?_
  refine k_rg ?_
  refine s_run rfl rfl (rmp rfl) ?_
  refine s_call rfl (hFe (H.part (A := ckE p b1 b2 A c s))) (ca41 rfl) ?_
  rintro e W1 ⟨rfl, FA, fc, H'⟩
  refine ⟨_, rfl, ?_⟩
  have H := H.step (A := ckE p b1 b2 A c s) (L := [_]) H' (fun _ h => h); clear H'; unfold ckE at H; simp only [List.cons_append, List.nil_append] at H
  refine k_nil ?_
  refine b_norm ?_
  refine c_norm ?_
  refine k_rg ?_
  refine s_run rfl rfl (rmp rfl) ?_
  refine s_run rfl rfl (r_nc rfl) ?_
  refine s_run rfl rfl (r_fa0 rfl fo90_3) ?_
  refine s_run rfl rfl (r_lo H 0 rfl rfl rfl ag3) ?_
  refine s_run rfl rfl (r_add rfl rfl (wI (by omega))) ?_
  refine s_run rfl rfl (r_nc rfl) ?_
  refine s_run rfl rfl (r_fa0 rfl fo90_3) ?_
  refine s_st (u := .int _ _) H 0 rfl rfl rfl rfl rfl rfl sz3 ?_
  clear H; intro _ H; simp only [jA, jB, jC, jD, jE, jF, jG, jH, jI, jJ, jK, Nat.reduceAdd] at H
  refine k_nil ?_
  refine fin0  rfl ?_
  exact ⟨rfl, FA, fc, (H : Heap w _ ([_, _, _, _] ++ [_]) _).drops⟩
 rw [if_neg k3]
 by_cases k4 : k = 4
 ·rw [if_pos k4]
  refine k_rg ?_
  refine s_run rfl rfl (r_fa0 rfl fo49_0) ?_
  refine s_run rfl rfl (r_lo H 4 rfl rfl rfl ag3) ?_
  refine s_run rfl rfl (r_lssF rfl rfl (by omega)) ?_
  refine s_run rfl rfl (rmb rfl) ?_
  refine s_run rfl (g_on 10 (by kernel_rfl) rfl) (r_fa0 rfl fo49_0) ?_
  refine s_run rfl (g_on 10 (by kernel_rfl) rfl) (r_lo H 4 rfl rfl rfl ag3) ?_
  refine s_run rfl (g_on 10 (by kernel_rfl) rfl) (r_gtrF rfl rfl (by omega)) ?_
  refine s_run rfl rfl (r_pkF (v := .bool _) rfl rfl) ?_
  refine s_run rfl rfl (rmb rfl) ?_
  refine s_run rfl (g_on 15 (by kernel_rfl) rfl) (r_fa0 rfl fo49_1) ?_
  refine s_run rfl (g_on 15 (by kernel_rfl) rfl) (r_lo H 4 rfl rfl rfl ag3) ?_
  refine s_run rfl (g_on 15 (by kernel_rfl) rfl) (r_lssF rfl rfl (by omega)) ?_
  refine s_run rfl rfl (r_pkF (v := .bool _) rfl rfl) ?_
  refine s_run rfl rfl (rab rfl) ?_
  refine k_nc ?_
  refine k_f rfl ?_
  refine k_sg ?_
  refine s_run rfl rfl (r_fa0 rfl fo49_0) ?_
  refine s_run rfl rfl (r_lo H 4 rfl rfl rfl ag3) ?_
  refine s_run rfl rfl (r_eqlF rfl rfl (by omega)) ?_
  refine s_run rfl rfl (rab rfl) ?_
  refine k_nc ?_
  refine k_f rfl ?_
  refine k_sg ?_
  refine s_run rfl rfl (r_fa0 rfl fo49_0) ?_
  refine s_run rfl rfl (r_lo H 4 rfl rfl rfl ag3) ?_
  refine s_run rfl rfl (r_eqlF rfl rfl (by omega)) ?_
  refine s_run rfl rfl (rab rfl) ?_
  refine k_nc ?_
  refine k_f rfl ?_
  refine k_sg ?_
  refine s_run rfl rfl (r_fa0 rfl fo49_0) ?_
  refine s_run rfl rfl (r_lo H 4 rfl rfl rfl ag3) ?_
  refine s_run rfl rfl (r_eqlF rfl rfl (by omega)) ?_
  refine s_run rfl rfl (rab rfl) ?_
  refine k_nc ?_
  refine k_f rfl ?_
  refine k_sg ?_
  refine s_run rfl rfl (r_fa0 rfl fo49_0) ?_
  refine s_run rfl rfl (r_lo H 4 rfl rfl rfl ag3) ?_
  refine s_run rfl rfl (r_eqlT rfl rfl (by omega)) ?_
  refine s_run rfl rfl (rab rfl) ?_
  refine k_nc ?_
  refine k_t rfl ?_
  refine k_qt 6 mixed (by kernel_rfl) H rfl rfl ?_
  refine q_run rfl rfl (fun _ H => r_mv (v := .pointer _) rfl) ?_
  refine q_run rfl rfl (fun _ H => r_nc rfl) ?_
  refine q_run rfl rfl (fun _ H => r_fa0 rfl fo90_1) ?_
  refine q_run rfl rfl (fun _ H => r_lo H 0 rfl rfl rfl ag88) ?_
  refine q_run rfl rfl (fun _ H => r_fa0 rfl fo49_1) ?_
  refine q_run rfl rfl (fun _ H => r_lo H 4 rfl rfl rfl ag3) ?_
  refine q_nil ?_
  intro _ H'; clear H; have H := H'; clear H'
  refine s_mu H 2 rfl rfl rfl rfl rfl (gn) Try.underlying88 ?_
  clear H; intro _ H; simp only [jA, jB, jC, jD, jE, jF, jG, jH, jI, jJ, jK, Nat.reduceAdd] at H
  refine k_nil ?_
  refine b_norm ?_
  refine c_norm ?_
  refine k_rg ?_
  refine s_run rfl rfl (rmp rfl) ?_
  refine s_run rfl rfl (r_nc rfl) ?_
  refine s_run rfl rfl (r_fa0 rfl fo90_3) ?_
  refine s_run rfl rfl (r_lo H 0 rfl rfl rfl ag3) ?_
  refine s_run rfl rfl (r_add rfl rfl (wI (by omega))) ?_
  refine s_run rfl rfl (r_nc rfl) ?_
  refine s_run rfl rfl (r_fa0 rfl fo90_3) ?_
  refine s_st (u := .int _ _) H 0 rfl rfl rfl rfl rfl rfl sz3 ?_
  clear H; intro _ H; simp only [jA, jB, jC, jD, jE, jF, jG, jH, jI, jJ, jK, Nat.reduceAdd] at H
  refine k_nil ?_
  refine fin0  rfl ?_
  exact ⟨rfl, A, c, (H : Heap w _ ([_, _, _, _] ++ [_]) _).drops⟩
 rw [if_neg k4]
 generalize s.commit = u at *
 refine k_rg ?_
 refine s_run rfl rfl (r_fa0 rfl fo49_0) ?_
 refine s_run rfl rfl (r_lo H 4 rfl rfl rfl ag3) ?_
 refine s_run rfl rfl (r_lssF rfl rfl (by omega)) ?_
 refine s_run rfl rfl (rmb rfl) ?_
 refine s_run rfl (g_on 10 (by kernel_rfl) rfl) (r_fa0 rfl fo49_0) ?_
 refine s_run rfl (g_on 10 (by kernel_rfl) rfl) (r_lo H 4 rfl rfl rfl ag3) ?_
 refine s_run rfl (g_on 10 (by kernel_rfl) rfl) (r_gtrF rfl rfl (by omega)) ?_
 refine s_run rfl rfl (r_pkF (v := .bool _) rfl rfl) ?_
 refine s_run rfl rfl (rmb rfl) ?_
 refine s_run rfl (g_on 15 (by kernel_rfl) rfl) (r_fa0 rfl fo49_1) ?_
 refine s_run rfl (g_on 15 (by kernel_rfl) rfl) (r_lo H 4 rfl rfl rfl ag3) ?_
 refine s_run rfl (g_on 15 (by kernel_rfl) rfl) (r_lssF rfl rfl (by omega)) ?_
 refine s_run rfl rfl (r_pkF (v := .bool _) rfl rfl) ?_
 refine s_run rfl rfl (rab rfl) ?_
 refine k_nc ?_
 refine k_f rfl ?_
 refine k_sg ?_
 refine s_run rfl rfl (r_fa0 rfl fo49_0) ?_
 refine s_run rfl rfl (r_lo H 4 rfl rfl rfl ag3) ?_
 refine s_run rfl rfl (r_eqlF rfl rfl (by omega)) ?_
 refine s_run rfl rfl (rab rfl) ?_
 refine k_nc ?_
 refine k_f rfl ?_
 refine k_sg ?_
 refine s_run rfl rfl (r_fa0 rfl fo49_0) ?_
 refine s_run rfl rfl (r_lo H 4 rfl rfl rfl ag3) ?_
 refine s_run rfl rfl (r_eqlF rfl rfl (by omega)) ?_
 refine s_run rfl rfl (rab rfl) ?_
 refine k_nc ?_
 refine k_f rfl ?_
 refine k_sg ?_
 refine s_run rfl rfl (r_fa0 rfl fo49_0) ?_
 refine s_run rfl rfl (r_lo H 4 rfl rfl rfl ag3) ?_
 refine s_run rfl rfl (r_eqlF rfl rfl (by omega)) ?_
 refine s_run rfl rfl (rab rfl) ?_
 refine k_nc ?_
 refine k_f rfl ?_
 refine k_sg ?_
 refine s_run rfl rfl (r_fa0 rfl fo49_0) ?_
 refine s_run rfl rfl (r_lo H 4 rfl rfl rfl ag3) ?_
 refine s_run rfl rfl (r_eqlF rfl rfl (by omega)) ?_
 refine s_run rfl rfl (rab rfl) ?_
 refine k_nc ?_
 refine k_f rfl ?_
 refine k_rg ?_
 refine s_run rfl rfl (rmp rfl) ?_
 refine s_call rfl (hCo (H.part (A := ckE p b1 b2 A c s))) (ca42 rfl) ?_
 rintro e W1 ⟨rfl, FA, fc, H'⟩
 refine ⟨_, rfl, ?_⟩
 have H := H.step (A := ckE p b1 b2 A c s) (L := [_]) H' (fun _ h => h); clear H'; unfold ckE at H; simp only [List.cons_append, List.nil_append] at H
 refine k_nil ?_
 refine b_norm ?_
 refine c_norm ?_
 refine k_rg ?_
 refine s_run rfl rfl (rmp rfl) ?_
 refine s_run rfl rfl (r_nc rfl) ?_
 refine s_run rfl rfl (r_fa0 rfl fo90_3) ?_
 refine s_run rfl rfl (r_lo H 0 rfl rfl rfl ag3) ?_
 refine s_run rfl rfl (r_add rfl rfl (wI (by omega))) ?_
 refine s_run rfl rfl (r_nc rfl) ?_
 refine s_run rfl rfl (r_fa0 rfl fo90_3) ?_
 refine s_st (u := .int _ _) H 0 rfl rfl rfl rfl rfl rfl sz3 ?_
 clear H; intro _ H; simp only [jA, jB, jC, jD, jE, jF, jG, jH, jI, jJ, jK, Nat.reduceAdd] at H
 refine k_nil ?_
 refine fin0  rfl ?_
 exact ⟨rfl, FA, fc, (H : Heap w _ ([_, _, _, _] ++ [_]) _).drops⟩
end Go.Proofs.Ytpbimgopiammaaa
end

section
namespace Go.Proofs.Ytpbimgopiammaaa
open Go.RowKit
set_option maxRecDepth 100000
set_option maxHeartbeats 2000000
theorem mput_len {α β : Type} [DecidableEq α] : ∀ (l : List (α × β)) (a : α) (v : β), (mput l a v).length ≤ l.length + 1
 | [], a, v => by simp [mput]
 | p :: l, a, v => by
  unfold mput
  split
  ·simp
  ·have := mput_len l a v; simp only [List.length_cons]; omega
theorem cms_len (s : Ck) : ∀ l : List Int, (l.foldl Ck.cm1 s).faults.length ≤ s.faults.length + l.length := fun l => by
 induction l generalizing s with
 | nil => simp
 | cons x l ih =>
  have h1 := ih (s.cm1 x)
  have h2 := (cm1_same s x).2.2.2.2
  rw [List.foldl_cons, List.length_cons]; omega
theorem step_bd (s : Ck) (k n : Int) : (s.step k n).marked.length ≤ s.marked.length + 1 ∧ (s.step k n).at_ = s.at_ + 1 ∧ (s.step k n).faults.length ≤ s.faults.length + s.marked.length + 1 := by
 unfold Ck.step
 split
 ·exact ⟨by show s.marked.length ≤ _; omega, rfl, by show (s.faults ++ [_]).length ≤ _; simp <;> omega⟩
 split
 ·exact ⟨by show s.marked.length ≤ _; omega, rfl, by show s.faults.length ≤ _; omega⟩
 split
 ·split
  ·exact ⟨by show s.marked.length ≤ _; omega, rfl, by show s.faults.length ≤ _; omega⟩
  ·exact ⟨by show s.marked.length ≤ _; omega, rfl, by show (s.faults ++ [_]).length ≤ _; simp <;> omega⟩
 split
 ·unfold Ck.fence
  cases s.flush
  ·exact ⟨by show s.marked.length ≤ _; omega, rfl, by show (s.faults ++ [_]).length ≤ _; simp <;> omega⟩
  ·exact ⟨by show s.marked.length ≤ _; omega, rfl, by show s.faults.length ≤ _; omega⟩
 split
 ·exact ⟨mput_len _ _ _, rfl, by show s.faults.length ≤ _; omega⟩
 ·refine ⟨by show ([] : List (Int × Bool)).length ≤ _; simp, congrArg (· + 1) (cms_at s _), ?_⟩
  have h1 := cms_len s (srt (s.marked.map Prod.fst))
  rw [srt_len, List.length_map] at h1
  show ((srt (s.marked.map Prod.fst)).foldl Ck.cm1 s).faults.length ≤ _
  omega
def ck0 : Ck := ⟨[], [], false, 0, []⟩
theorem oNew (w : World) : Calls Try.prog 18 [].toArray w fun e w' => ∃ p b1 b2, e = .returned (ptr p) ∧ Heap w [] (ckE p b1 b2 none 0 ck0) w' := by
 have H := Heap.nil w
 refine k_in (N := 5) Try.func18 rfl rfl rfl ?_
 refine k_sg ?_
 refine s_run rfl rfl (rap rfl) ?_
 refine k_nc ?_
 refine k_sg ?_
 refine s_mm kS (Value.int .i64) H rfl ?_
 intro b1 _ H'; clear H; have H := H'; clear H'
 refine s_mm kS Value.bool H rfl ?_
 intro b2 _ H'; clear H; have H := H'; clear H'
 refine s_run rfl rfl (r_bd (bd90_0_1 _ _) rfl) ?_
 refine s_box H rfl rfl ?_
 intro p4 _ H'; clear H; have H := H'; clear H'
 refine s_run rfl rfl (rap rfl) ?_
 refine k_nc ?_
 refine k_ret ?_
 refine fin1r (v := .pointer _) rfl rfl ?_
 replace H := H.own_nil 3 69
 exact ⟨p4, b1, b2, rfl, H.order [1, 3, 2, 0] rfl rfl⟩
theorem flt_len (l : List Flt) : (fltN l).length = l.length * 3 := by
 induction l with
 | nil => rfl
 | cons x l ih => simp [fltN, Flt.cells] at ih ⊢; omega
theorem ck_sees {p b1 b2 c : Nat} {A : Option Addr} {s : Ck} {w W : World} {F : List Nat} {L : List Ent} (H : Heap w F (ckE p b1 b2 A c s ++ L) W) : Sees C1.v W [] A (fltN s.faults) := by
 intro h0
 obtain ⟨b, e, _, hr⟩ := H.own_seesN (T := 69) (n := s.faults.length) (xs := fltN s.faults) 3 rfl h0
 exact ⟨b, 0, e, by simp, fun i z hz => hr i z hz⟩
theorem oFaults (p b1 b2 : Nat) (A : Option Addr) (c : Nat) (s : Ck) (w : World) (hE : Ents (ckE p b1 b2 A c s) w) (hf : s.faults.length ≤ 500000) :
  Calls Try.prog 26 [ptr p].toArray w fun e w' => ∃ A' c', e = .returned (.slice A' s.faults.length c') ∧ Heap w [] [ownN 3 (.slice A' s.faults.length c') s.faults.length ((fltN s.faults).map C1.v) 69] w' := by
 have HR := Heap.start hE
 have hS := ck_sees (L := []) HR
 have hl := flt_len s.faults
 have H := Heap.nil w
 unfold ckE at HR
 refine k_in (N := 9) Try.func26 rfl rfl rfl ?_
 refine k_sg ?_
 refine s_run rfl rfl (ras rfl) ?_
 refine k_nc ?_
 refine k_sg ?_
 refine s_bs0 3 (by omega) H rfl Try.underlying58 inf69 ?_
 intro _ _ H'; clear H; have H := H'; clear H'
 refine s_run rfl rfl (rmp rfl) ?_
 refine s_run rfl rfl (r_nc rfl) ?_
 refine s_run rfl rfl (r_fa0 rfl fo90_4) ?_
 refine s_run rfl rfl (r_lo (HR.same H.only) 0 rfl rfl rfl ag58) ?_
 refine s_apsN (enc := C1.v) (size := 3) (xs := []) H 0 rfl rfl rfl rfl (hS) (hl) C1.one (by omega) (by omega) Try.underlying58 inf69 rfl ?_
 intro A1 c1 W1 H'; simp only [List.set_cons_zero, List.set_cons_succ, List.take_succ_cons, List.take_zero, List.drop_succ_cons, List.drop_zero, List.cons_append, List.nil_append, List.append_nil, List.length_cons, List.length_nil, Nat.reduceAdd] at H'; clear H; have H := H'; clear H'
 refine s_run rfl rfl (ras rfl) ?_
 refine k_nc ?_
 refine k_ret ?_
 refine fin1r (v := .slice _ _ _) rfl rfl ?_
 rw [Nat.zero_add] at H
 exact ⟨A1, c1, by rw [Nat.zero_add], H⟩
def evP (b o : Nat) (w : World) (l : List (Int × Int)) : Prop := ∀ i e, l[i]? = some e → Reads (fun v : Value => v) w b (o + i * 2) [.int .i64 e.1, .int .i64 e.2]
def chk (l : List (Int × Int)) : Ck := l.foldl (fun s e => s.step e.1 e.2) ck0
theorem chk_bd (l : List (Int × Int)) (i : Nat) (hi : i ≤ l.length) (h : l.length ≤ 600) : (chk (l.take i)).marked.length ≤ i ∧ (chk (l.take i)).at_ = i ∧ (chk (l.take i)).faults.length ≤ i * 601 := by
 induction i with
 | zero => exact ⟨by simp [chk, ck0], rfl, by simp [chk, ck0]⟩
 | succ i ih =>
  obtain ⟨h1, h2, h3⟩ := ih (by omega)
  obtain ⟨e, he⟩ : ∃ e, l[i]? = some e := ⟨_, List.getElem?_eq_getElem (by omega)⟩
  have hst : chk (l.take (i + 1)) = (chk (l.take i)).step e.1 e.2 := snoc_foldl _ _ _ _ _ he
  obtain ⟨g1, g2, g3⟩ := step_bd (chk (l.take i)) e.1 e.2
  rw [hst]
  exact ⟨by omega, by omega, by omega⟩
theorem oCheck (A : Option Addr) (n c : Nat) (l : List (Int × Int)) (w : World) (hS : l.length ≠ 0 → ∃ b o, A = some ⟨b, o, none⟩ ∧ evP b o w l) (hl : l.length = n) (hn : n ≤ 600) (hb : ∀ e ∈ l, -9223372036854775808 ≤ e.2 ∧ e.2 ≤ 9223372036854775807) :
  Calls Try.prog 27 [.slice A n c].toArray w fun e w' => ∃ A' c', e = .returned (.slice A' (chk l).faults.length c') ∧ Heap w [] [ownN 3 (.slice A' (chk l).faults.length c') (chk l).faults.length ((fltN (chk l).faults).map C1.v) 69] w' := by
 have H := Heap.nil w
 refine k_in (N := 19) Try.func27 rfl rfl rfl ?_
 refine k_sg ?_
 refine s_run rfl rfl (ras rfl) ?_
 refine k_nc ?_
 refine k_sg ?_
 refine s_call rfl (oNew _) (ca18 rfl) ?_
 rintro e W1 ⟨p, b1, b2, rfl, H'⟩
 refine ⟨_, rfl, ?_⟩
 have H := H.more H'; clear H'
 refine s_run rfl rfl (rap rfl) ?_
 refine k_nc ?_
 refine k_seq ?_
 refine k_sg ?_
 refine s_run rfl rfl (rms rfl) ?_
 refine s_run rfl rfl (r_len rfl Try.underlying44) ?_
 refine s_run rfl rfl (rmi rfl) ?_
 refine k_nc ?_
 refine k_b ?_
 refine k_loop (fun z f W => ∃ (i : Nat) (FA : Option Addr) (fc : Nat) (u : Ck), i ≤ n ∧ z = n - i ∧ u = chk (l.take i) ∧ f 3 = ptr p ∧ f 7 = .slice A n c ∧ f 8 = .int .i64 n ∧ f 9 = .int .i64 i ∧ Heap w [] (ckE p b1 b2 FA fc u) W) n ⟨0, none, 0, ck0, by omega, rfl, rfl, rfl, rfl, rfl, rfl, H⟩ ?_
 clear H
 rintro z f W ⟨i, FA, fc, u, hi, rfl, hu, f3, f7, f8, f9, H⟩
 obtain ⟨q1, q2, q3⟩ := chk_bd l i (by omega) (by omega)
 rw [← hu] at q1 q2 q3
 by_cases hlt : i < n
 ·obtain ⟨e, he⟩ : ∃ e, l[i]? = some e := ⟨_, List.getElem?_eq_getElem (by omega)⟩
  obtain ⟨b, o, hA, hrd⟩ := hS (by omega)
  have hre := hrd i e he
  have hbe := hb e (List.mem_of_getElem? he)
  have hst : chk (l.take (i + 1)) = (chk (l.take i)).step e.1 e.2 := snoc_foldl _ _ _ _ _ he
  rw [← hu] at hst
  have hDo := fun {W : World} hE => oDo p b1 b2 FA fc u e.1 e.2 W hE (by omega) (by omega) (by omega) hbe
  rw [hA] at f7
  obtain ⟨f, rfl⟩ := live4 f3 f7 f8 f9
  clear f3 f7 f8 f9
  refine k_sg ?_
  refine s_run rfl rfl (r_lssT rfl rfl (by omega)) ?_
  refine k_nc ?_
  refine k_seq ?_
  refine k_t rfl ?_
  refine k_skip ?_
  refine c_norm ?_
  refine k_seq ?_
  refine k_b ?_
  refine k_sg ?_
  refine s_run rfl rfl (r_ix (i := i) rfl rfl (by omega) (by omega) Try.underlying44 sz49) ?_
  refine s_run rfl rfl (r_lA (enc := fun v : Value => v) (zs := [.int .i64 e.1, .int .i64 e.2]) (hre.later H.only (by simp)) rfl rfl ag49 sz49) ?_
  refine s_al H rfl inf49 ?_
  intro p5 _ H'; clear H; have H := H'; clear H'
  refine s_sw H 0 rfl rfl rfl rfl rfl rfl rfl sz49 ?_
  clear H; intro _ H; simp only [jA, jB, jC, jD, jE, jF, jG, jH, jI, jJ, jK, Nat.reduceAdd] at H
  refine k_nc ?_
  refine k_rg ?_
  refine s_run rfl rfl (rmp rfl) ?_
  refine s_run rfl rfl (r_la H 0 rfl rfl rfl ag49 sz49) ?_
  refine s_call rfl (hDo ((H.order [1, 2, 3, 4, 0] rfl rfl : Heap w _ (ckE p b1 b2 FA fc u ++ [_]) _).part)) (ca19 rfl) ?_
  rintro e W1 ⟨rfl, FA', fc', H'⟩
  refine ⟨_, rfl, ?_⟩
  have H := ((H.order [1, 2, 3, 4, 0] rfl rfl : Heap w _ (ckE p b1 b2 FA fc u ++ [_]) _).step H' (fun _ h => h)); clear H'
  refine k_nil ?_
  refine b_norm ?_
  refine c_norm ?_
  refine k_rg ?_
  refine s_run rfl rfl (r_add rfl rfl (wI (by omega))) ?_
  refine s_run rfl rfl (rmi rfl) ?_
  refine k_nil ?_
  refine c_round ?_
  refine ⟨_, _, ?_, rfl, i + 1, FA', fc', _, by omega, rfl, hst.symm, rfl, by rw [hA]; rfl, rfl, rfl, H.drops⟩
  omega
 ·obtain rfl : i = n := by omega
  have et : l.take i = l := by rw [← hl]; exact List.take_length
  rw [et] at hu
  subst hu
  have hFa := fun {W : World} hE => oFaults p b1 b2 FA fc (chk l) W hE (by omega)
  obtain ⟨f, rfl⟩ := live4 f3 f7 f8 f9
  clear f3 f7 f8 f9
  refine k_sg ?_
  refine s_run rfl rfl (r_lssF rfl rfl (by omega)) ?_
  refine k_nc ?_
  refine k_seq ?_
  refine k_f rfl ?_
  refine k_exit ?_
  refine c_exit ?_
  refine c_exit ?_
  refine b_hit ?_
  refine c_norm ?_
  refine k_sg ?_
  refine s_run rfl rfl (rmp rfl) ?_
  refine s_call rfl (hFa H.ents) (ca26 rfl) ?_
  rintro e W1 ⟨A', c', rfl, H'⟩
  refine ⟨_, rfl, ?_⟩
  have H := H.more H'; clear H'
  refine s_run rfl rfl (ras rfl) ?_
  refine k_nc ?_
  refine k_ret ?_
  refine fin1r (v := .slice _ _ _) rfl rfl ?_
  exact ⟨A', c', rfl, (H : Heap w [] ([_] ++ _) _).drops⟩
end Go.Proofs.Ytpbimgopiammaaa
end

section
namespace Go.Proofs.Ytpbimgopiammaaa
open Go.RowKit
set_option maxRecDepth 100000
set_option maxHeartbeats 2000000
section
variable {P : Program} {n : Sz} {f : Nat → Value} {W w0 : World} {dst : Option Tmp} {ty : TypeId} {pos : String} {af : Array Edge} {g : Option (Nat × Bool)} {x y : Operand} {t t2 e1 e2 e3 : TypeId}
theorem run_st3 {k1 k2 k3 q1 q2 q3 : IntKind} {a b c a' b' c' : Int} (ht : P.underlying t = some (.struct (P.fieldsOf t))) (hp : P.stoodInHeld t = false)
  (hf : (P.fieldsOf t).toList.map (fun f => (f.name != "_", f.type, f.offset)) = [(true, e1, 0), (true, e2, 1), (true, e3, 2)]) (h1 : P.underlying e1 = some (.int q1)) (h2 : P.underlying e2 = some (.int q2)) (h3 : P.underlying e3 = some (.int q3)) (D : Nat) :
  (Op.equalIn (D + 2) t (.agg [.int k1 a, .int k2 b, .int k3 c].toArray) (.agg [.int k1 a', .int k2 b', .int k3 c'].toArray)).run P W = .ok (decide (a = a' ∧ b = b' ∧ c = c')) W := by
 rw [run_equalIn_struct W (D + 1) t _ _ ht hp]
 generalize (P.fieldsOf t).toList = fs at hf
 obtain ⟨f1, f2, f3, rfl⟩ : ∃ f1 f2 f3, fs = [f1, f2, f3] := by
  have := congrArg List.length hf
  simp only [List.length_map, List.length_cons, List.length_nil] at this
  rcases fs with _ | ⟨f1, _ | ⟨f2, _ | ⟨f3, _ | ⟨f4, fs⟩⟩⟩⟩
  ·simp at this
  ·simp at this
  ·simp at this
  ·exact ⟨f1, f2, f3, rfl⟩
  ·simp at this
 simp only [List.map_cons, List.map_nil, List.cons.injEq, Prod.mk.injEq, and_true, bne_iff_ne] at hf
 obtain ⟨⟨n1, rfl, o1⟩, ⟨n2, rfl, o2⟩, n3, rfl, o3⟩ := hf
 have p1 : ∀ (W : World) (u v z : Value), (part f1.type [u, v, z].toArray f1.offset).run P W = .ok u W := by
  intro W u v z; simp [part, isAgg, run_underlying h1, o1]
 have p2 : ∀ (W : World) (u v z : Value), (part f2.type [u, v, z].toArray f2.offset).run P W = .ok v W := by
  intro W u v z; simp [part, isAgg, run_underlying h2, o2]
 have p3 : ∀ (W : World) (u v z : Value), (part f3.type [u, v, z].toArray f3.offset).run P W = .ok z W := by
  intro W u v z; simp [part, isAgg, run_underlying h3, o3]
 simp only [Op.eqFields, n1, n2, n3, ne_eq, not_false_eq_true, if_true, Sem.run_bind, p1, p2, p3, Result.andThen_ok, run_equalIn_int W D f1.type k1 q1 _ _ h1]
 by_cases c1 : a = a'
 ·by_cases c2 : b = b'
  ·by_cases c3 : c = c'
   ·simp [c1, c2, c3, Op.eqFields, p2, p3, run_equalIn_int W D f2.type k2 q2 _ _ h2, run_equalIn_int W D f3.type k3 q3 _ _ h3]
   ·simp [c1, c2, c3, Op.eqFields, p2, p3, run_equalIn_int W D f2.type k2 q2 _ _ h2, run_equalIn_int W D f3.type k3 q3 _ _ h3]
  ·simp [c1, c2, Op.eqFields, p2, run_equalIn_int W D f2.type k2 q2 _ _ h2]
 ·simp [c1]
theorem r_st3 {k1 k2 k3 q1 q2 q3 : IntKind} {a b c a' b' c' : Int} (hx : ev n f x = .agg [.int k1 a, .int k2 b, .int k3 c].toArray) (hy : ev n f y = .agg [.int k1 a', .int k2 b', .int k3 c'].toArray) (ht : P.underlying t = some (.struct (P.fieldsOf t))) (hp : P.stoodInHeld t = false) (hg : P.eqGuardType P.depth t = false)
  (hf : (P.fieldsOf t).toList.map (fun f => (f.name != "_", f.type, f.offset)) = [(true, e1, 0), (true, e2, 1), (true, e3, 2)]) (h1 : P.underlying e1 = some (.int q1)) (h2 : P.underlying e2 = some (.int q2)) (h3 : P.underlying e3 = some (.int q3)) {q : Bool} (hq : decide (a = a' ∧ b = b' ∧ c = c') = q) :
  (execOp (ev n f) ⟨dst, .binOp .eql t x y t2, ty, pos, af, g⟩).run P W = .ok (.value (.bool q)) W := by
 subst hq
 have h := run_st3 (W := W) (k1 := k1) (k2 := k2) (k3 := k3) (a := a) (b := b) (c := c) (a' := a') (b' := b') (c' := c') ht hp hf h1 h2 h3 9998
 have h2 : (binOp .eql t (.agg [.int k1 a, .int k2 b, .int k3 c].toArray) (.agg [.int k1 a', .int k2 b', .int k3 c'].toArray)).run P W = .ok (.bool (decide (a = a' ∧ b = b' ∧ c = c'))) W := by
  rw [run_eql_struct, h]; rfl
 have h3 := run_eqGuard_agg W .eql t x y [Value.int k1 a, .int k2 b, .int k3 c].toArray [Value.int k1 a', .int k2 b', .int k3 c'].toArray hg
 simp only [execOp, hx, hy, Sem.run_bind, h3, h2, Result.andThen_ok]
 rfl
end
def exE : List (Int × Int) := [(1, 3), (4, 3), (5, 0)]
theorem exE_f : (chk exE).faults = [⟨2, 3, 1⟩] := by
 simp [chk, exE, Ck.step, ck0, Ck.bump, mput, Ck.commit, srt, Ck.cm1, mget, Ck.fault]
theorem awake35 (w : World) : Calls Try.prog 17 [].toArray w fun e w' => e = .returned (.bool true) ∧ Only [] w w' := by
 have H := Heap.nil w
 refine k_in (N := 23) Try.func17 rfl rfl rfl ?_
 refine k_sg ?_
 refine s_run rfl rfl (rab rfl) ?_
 refine k_nc ?_
 refine k_sg ?_
 refine s_run rfl rfl (r_bd (bd49_0_1 _ _) rfl) ?_
 refine s_run rfl rfl (r_bd (bd49_0_1 _ _) rfl) ?_
 refine s_run rfl rfl (r_bd (bd49_0 _) rfl) ?_
 refine s_bsM (enc := C1.v) (size := 2) (zs := [C1.i .i64 1, C1.i .i64 3, C1.i .i64 4, C1.i .i64 3, C1.i .i64 5, C1.i .i64 0]) H rfl rfl rfl (by omega) (by omega) (by kernel_rfl) Try.underlying44 inf49 ?_
 intro b8 W8 H'
 clear H; have H := H'; clear H'
 have hS : exE.length ≠ 0 → ∃ b o, (some ⟨b8, 0, none⟩ : Option Addr) = some ⟨b, o, none⟩ ∧ evP b o W8 exE := by
  intro _
  obtain ⟨b, e, _, hr⟩ := H.own_seesN 0 rfl (by simp)
  injection e with e
  injection e with e _ _
  subst e
  refine ⟨b8, 0, rfl, fun i x hi j u hj => ?_⟩
  match i, j, hi, hj with
  | 0, 0, hi, hj => simp [exE] at hi; subst hi; simp at hj; subst hj; exact hr 0 _ rfl
  | 0, 1, hi, hj => simp [exE] at hi; subst hi; simp at hj; subst hj; exact hr 1 _ rfl
  | 1, 0, hi, hj => simp [exE] at hi; subst hi; simp at hj; subst hj; exact hr 2 _ rfl
  | 1, 1, hi, hj => simp [exE] at hi; subst hi; simp at hj; subst hj; exact hr 3 _ rfl
  | 2, 0, hi, hj => simp [exE] at hi; subst hi; simp at hj; subst hj; exact hr 4 _ rfl
  | 2, 1, hi, hj => simp [exE] at hi; subst hi; simp at hj; subst hj; exact hr 5 _ rfl
  | 0, j + 2, hi, hj => simp at hj
  | 1, j + 2, hi, hj => simp at hj
  | 2, j + 2, hi, hj => simp at hj
  | i + 3, j, hi, hj => simp [exE] at hi
 have hC := oCheck (some ⟨b8, 0, none⟩) 3 3 exE W8 hS rfl (by omega) (by simp [exE])
 rw [exE_f] at hC
 simp only [List.length_cons, List.length_nil, Nat.reduceAdd, Nat.zero_add, show fltN [⟨2, 3, 1⟩] = [C1.i .i64 2, C1.i .i64 3, C1.i .i64 1] from rfl] at hC
 refine s_call rfl (hC) (ca27 rfl) ?_
 rintro e W1 ⟨FA, fc, rfl, H'⟩
 refine ⟨_, rfl, ?_⟩
 have H := H.more H'; clear H'
 refine s_run rfl rfl (ras rfl) ?_
 refine k_nc ?_
 refine k_seq ?_
 obtain ⟨pa, rfl, _, hrd⟩ := H.own_seesN 0 rfl (by simp)
 refine k_rg ?_
 refine s_run rfl rfl (rms rfl) ?_
 refine s_run rfl rfl (r_len rfl Try.underlying58) ?_
 refine s_run rfl rfl (r_eqlT rfl rfl (by omega)) ?_
 refine s_run rfl rfl (rmb rfl) ?_
 refine s_run rfl (g_on 10 (by kernel_rfl) rfl) (rms rfl) ?_
 refine s_run rfl (g_on 10 (by kernel_rfl) rfl) (r_ix0 (i := 0) rfl rfl (by omega) (by omega) Try.underlying58 sz69) ?_
 refine s_run rfl (g_on 10 (by kernel_rfl) rfl) (r_lA (enc := C1.v) (zs := [C1.i .i64 2, C1.i .i64 3, C1.i .i64 1]) hrd rfl rfl ag69 sz69) ?_
 refine s_run rfl (g_on 10 (by kernel_rfl) rfl) (r_bd (bd69_0_1_2 _ _ _) rfl) ?_
 refine s_run rfl (g_on 10 (by kernel_rfl) rfl) (r_st3 (q := true) rfl rfl (by kernel_rfl) (by kernel_rfl) (by kernel_rfl) (by kernel_rfl) Try.underlying3 Try.underlying3 Try.underlying3 (by simp)) ?_
 refine s_run rfl rfl (r_pkT (v := .bool _) rfl rfl) ?_
 refine s_run rfl rfl (rmb rfl) ?_
 refine s_run rfl rfl (r_pkT (v := .bool _) rfl rfl) ?_
 refine s_run rfl rfl (rmb rfl) ?_
 refine s_run rfl rfl (r_pkT (v := .bool _) rfl rfl) ?_
 refine s_run rfl rfl (rmb rfl) ?_
 refine s_run rfl rfl (r_pkT (v := .bool _) rfl rfl) ?_
 refine s_run rfl rfl (rab rfl) ?_
 refine k_nc ?_
 refine k_ret ?_
 refine fin1r (v := .bool _) rfl rfl ?_
 exact ⟨rfl, H.only⟩
end Go.Proofs.Ytpbimgopiammaaa
end

section
namespace Go.Proofs.Ytpbimgopiammaaa
open Go.RowKit
set_option maxRecDepth 100000
set_option maxHeartbeats 2000000
def lnN (k : Int) (F N : Nat) : List C1 := (List.range N).flatMap fun i => [C1.i .i64 k, C1.i .i64 ((F + i : Nat) : Int)]
theorem lnN_succ (k : Int) (F N : Nat) : lnN k F (N + 1) = lnN k F N ++ [C1.i .i64 k, C1.i .i64 ((F + N : Nat) : Int)] := by
 unfold lnN; rw [List.range_succ, List.flatMap_append]; simp
theorem lnN_len (k : Int) (F N : Nat) : (lnN k F N).length = N * 2 := by
 induction N with
 | zero => rfl
 | succ n ih => rw [lnN_succ, List.length_append, ih]; simp; omega
theorem lnN_get (k : Int) (F : Nat) : ∀ (N i : Nat), i < N → (lnN k F N)[i * 2]? = some (C1.i .i64 k) ∧ (lnN k F N)[i * 2 + 1]? = some (C1.i .i64 ((F + i : Nat) : Int))
 | 0, i, h => by omega
 | N + 1, i, h => by
  rw [lnN_succ]
  by_cases e : i < N
  ·obtain ⟨h1, h2⟩ := lnN_get k F N i e
   rw [List.getElem?_append_left (by rw [lnN_len]; omega), List.getElem?_append_left (by rw [lnN_len]; omega)]
   exact ⟨h1, h2⟩
  ·obtain rfl : i = N := by omega
   rw [List.getElem?_append_right (by rw [lnN_len]; omega), List.getElem?_append_right (by rw [lnN_len]; omega), lnN_len]
   exact ⟨by simp, by simp⟩
theorem oLines0 (k a m : Int) (w : World) (h : a < 0 ∨ m < 1) : Calls Try.prog 28 [.int .i64 k, .int .i64 a, .int .i64 m].toArray w fun e w' => e = .returned (.slice none 0 0) ∧ Only [] w w' := by
 have H := Heap.nil w
 by_cases h1 : a < 0
 ·refine k_in (N := 33) Try.func28 rfl rfl rfl ?_
  refine k_sg ?_
  refine s_run rfl rfl (ras rfl) ?_
  refine k_nc ?_
  refine k_seq ?_
  refine k_sg ?_
  refine s_run rfl rfl (rmi rfl) ?_
  refine s_run rfl rfl (r_lssT rfl rfl (by omega)) ?_
  refine s_run rfl rfl (rmb rfl) ?_
  refine s_off rfl (g_off 11 (by kernel_rfl) rfl rfl) ?_
  refine s_off rfl (g_off 11 (by kernel_rfl) rfl rfl) ?_
  refine s_run rfl rfl (r_pkT (v := .bool _) rfl rfl) ?_
  refine k_nc ?_
  refine k_t rfl ?_
  refine k_sg ?_
  refine s_run rfl rfl (ras rfl) ?_
  refine k_nc ?_
  refine k_ret ?_
  refine c_ret ?_
  refine fin1r (v := .slice _ _ _) rfl rfl ?_
  exact ⟨rfl, H.only⟩
 ·refine k_in (N := 33) Try.func28 rfl rfl rfl ?_
  refine k_sg ?_
  refine s_run rfl rfl (ras rfl) ?_
  refine k_nc ?_
  refine k_seq ?_
  refine k_sg ?_
  refine s_run rfl rfl (rmi rfl) ?_
  refine s_run rfl rfl (r_lssF rfl rfl (by omega)) ?_
  refine s_run rfl rfl (rmb rfl) ?_
  refine s_run rfl (g_on 11 (by kernel_rfl) rfl) (rmi rfl) ?_
  refine s_run rfl (g_on 11 (by kernel_rfl) rfl) (r_lssT rfl rfl (by omega)) ?_
  refine s_run rfl rfl (r_pkF (v := .bool _) rfl rfl) ?_
  refine k_nc ?_
  refine k_t rfl ?_
  refine k_sg ?_
  refine s_run rfl rfl (ras rfl) ?_
  refine k_nc ?_
  refine k_ret ?_
  refine c_ret ?_
  refine fin1r (v := .slice _ _ _) rfl rfl ?_
  exact ⟨rfl, H.only⟩
theorem oLines (k : Int) (a m : Nat) (w : World) (ha : a ≤ 32767) (hm : 1 ≤ m ∧ m ≤ 32767) : Calls Try.prog 28 [.int .i64 k, .int .i64 a, .int .i64 m].toArray w fun e w' => ∃ A c, e = .returned (.slice A ((a + m - 1) / 8 - a / 8 + 1) c) ∧ Heap w [] [ownN 2 (.slice A ((a + m - 1) / 8 - a / 8 + 1) c) ((a + m - 1) / 8 - a / 8 + 1) ((lnN k (a / 8) ((a + m - 1) / 8 - a / 8 + 1)).map C1.v) 49] w' := by
 have H := Heap.nil w
 obtain ⟨N, hN⟩ : ∃ N, (a + m - 1) / 8 - a / 8 + 1 = N := ⟨_, rfl⟩
 obtain ⟨F, hF⟩ : ∃ F, a / 8 = F := ⟨_, rfl⟩
 rw [hN, hF]
 refine k_in (N := 33) Try.func28 rfl rfl rfl ?_
 refine k_sg ?_
 refine s_run rfl rfl (ras rfl) ?_
 refine k_nc ?_
 refine k_seq ?_
 refine k_sg ?_
 refine s_run rfl rfl (rmi rfl) ?_
 refine s_run rfl rfl (r_lssF rfl rfl (by omega)) ?_
 refine s_run rfl rfl (rmb rfl) ?_
 refine s_run rfl (g_on 11 (by kernel_rfl) rfl) (rmi rfl) ?_
 refine s_run rfl (g_on 11 (by kernel_rfl) rfl) (r_lssF rfl rfl (by omega)) ?_
 refine s_run rfl rfl (r_pkF (v := .bool _) rfl rfl) ?_
 refine k_nc ?_
 refine k_f rfl ?_
 refine k_skip ?_
 refine c_norm ?_
 refine k_sg ?_
 refine s_run rfl rfl (ras rfl) ?_
 refine k_nc ?_
 refine k_seq ?_
 refine k_sg ?_
 refine s_run rfl rfl (rmi rfl) ?_
 refine s_run rfl rfl (r_quo rfl rfl (by omega) (wI (by omega))) ?_
 refine s_run rfl rfl (rai rfl) ?_
 refine k_nc ?_
 refine k_b ?_
 replace H := H.own_nil 2 49
 refine k_loop (fun z f W => ∃ (i : Nat) (A : Option Addr) (c : Nat), i ≤ N ∧ z = N - i ∧ f 0 = .int .i64 k ∧ f 1 = .int .i64 a ∧ f 2 = .int .i64 m ∧ f 7 = .slice A i c ∧ f 8 = .int .i64 ((F + i : Nat) : Int) ∧ Heap w [] [ownN 2 (.slice A i c) i ((lnN k F i).map C1.v) 49] W) N ⟨0, none, 0, by omega, rfl, rfl, rfl, rfl, rfl, by rw [← hF]; rfl, H⟩ ?_
 clear H
 rintro z f W ⟨i, A, c, hi, rfl, f0, f1, f2, f7, f8, H⟩
 obtain ⟨f, rfl⟩ := live5 f0 f1 f2 f7 f8
 clear f0 f1 f2 f7 f8
 by_cases hlt : i < N
 ·refine k_seq ?_
  refine k_sg ?_
  refine s_run rfl rfl (rmi rfl) ?_
  refine s_run rfl rfl (rmi rfl) ?_
  refine s_run rfl rfl (rmi rfl) ?_
  refine s_run rfl rfl (r_add rfl rfl (wI (by omega))) ?_
  refine s_run rfl rfl (r_sub rfl rfl (wI (by omega))) ?_
  refine s_run rfl rfl (r_quo rfl rfl (by omega) (wI (by omega))) ?_
  refine s_run rfl rfl (r_leqT rfl rfl (by omega)) ?_
  refine k_nc ?_
  refine k_t rfl ?_
  refine k_skip ?_
  refine c_norm ?_
  refine k_seq ?_
  refine k_b ?_
  refine k_rg ?_
  refine s_run rfl rfl (rms rfl) ?_
  refine s_run rfl rfl (rmi rfl) ?_
  refine s_run rfl rfl (rmi rfl) ?_
  refine s_run rfl rfl (r_bd (bd49_0_1 _ _) rfl) ?_
  refine s_appN (enc := C1.v) (zs := [C1.i .i64 k, C1.i .i64 ((F + i : Nat) : Int)]) H 0 rfl rfl rfl rfl C1.one (by omega) (by kernel_rfl) rfl rfl rfl (by omega) Try.underlying44 inf49 rfl ?_
  intro _ NA' cN' _ H'; simp only [List.set_cons_zero, List.set_cons_succ, List.take_succ_cons, List.take_zero, List.drop_succ_cons, List.drop_zero, List.cons_append, List.nil_append, List.append_nil, List.length_cons, List.length_nil, Nat.reduceAdd] at H'; clear H; have H := H'; clear H'
  refine s_run rfl rfl (ras rfl) ?_
  refine k_nil ?_
  refine b_norm ?_
  refine c_norm ?_
  refine k_rg ?_
  refine s_run rfl rfl (rmi rfl) ?_
  refine s_run rfl rfl (r_add rfl rfl (wI (by omega))) ?_
  refine s_run rfl rfl (rai rfl) ?_
  refine k_nil ?_
  refine c_round ?_
  refine ⟨_, _, ?_, rfl, i + 1, some ⟨NA', 0, none⟩, cN', by omega, rfl, rfl, rfl, rfl, rfl, rfl, by rw [lnN_succ]; exact H⟩
  omega
 ·obtain rfl : i = N := by omega
  refine k_seq ?_
  refine k_sg ?_
  refine s_run rfl rfl (rmi rfl) ?_
  refine s_run rfl rfl (rmi rfl) ?_
  refine s_run rfl rfl (rmi rfl) ?_
  refine s_run rfl rfl (r_add rfl rfl (wI (by omega))) ?_
  refine s_run rfl rfl (r_sub rfl rfl (wI (by omega))) ?_
  refine s_run rfl rfl (r_quo rfl rfl (by omega) (wI (by omega))) ?_
  refine s_run rfl rfl (r_leqF rfl rfl (by omega)) ?_
  refine k_nc ?_
  refine k_f rfl ?_
  refine k_exit ?_
  refine c_exit ?_
  refine c_exit ?_
  refine b_hit ?_
  refine c_norm ?_
  refine k_sg ?_
  refine s_run rfl rfl (rms rfl) ?_
  refine s_run rfl rfl (ras rfl) ?_
  refine k_nc ?_
  refine k_ret ?_
  refine fin1r (v := .slice _ _ _) rfl rfl ?_
  exact ⟨A, c, rfl, H⟩
end Go.Proofs.Ytpbimgopiammaaa
end

section
namespace Go.Proofs.Ytpbimgopiammaaa
open Go.RowKit
set_option maxRecDepth 100000
set_option maxHeartbeats 2000000
section
variable {P : Program} {n : Sz} {f : Nat → Value} {W w0 : World} {dst : Option Tmp} {ty : TypeId} {pos : String} {af : Array Edge} {g : Option (Nat × Bool)} {x y : Operand} {t t2 e1 e2 : TypeId}
theorem r_st2n {k1 k2 q1 q2 : IntKind} {a b c d : Int} (hx : ev n f x = .agg [.int k1 a, .int k2 b].toArray) (hy : ev n f y = .agg [.int k1 c, .int k2 d].toArray) (ht : P.underlying t = some (.struct (P.fieldsOf t))) (hp : P.stoodInHeld t = false) (hg : P.eqGuardType P.depth t = false)
  (hf : (P.fieldsOf t).toList.map (fun f => (f.name != "_", f.type, f.offset)) = [(true, e1, 0), (true, e2, 1)]) (h1 : P.underlying e1 = some (.int q1)) (h2 : P.underlying e2 = some (.int q2)) (hq : a = c ∧ b = d) :
  (execOp (ev n f) ⟨dst, .binOp .neq t x y t2, ty, pos, af, g⟩).run P W = .ok (.value (.bool false)) W := by
 have h := run_st2 (W := W) (k1 := k1) (k2 := k2) (a := a) (b := b) (c := c) (d := d) ht hp hf h1 h2 9998
 have h2 : (binOp .neq t (.agg [.int k1 a, .int k2 b].toArray) (.agg [.int k1 c, .int k2 d].toArray)).run P W = .ok (.bool false) W := by
  rw [run_neq_struct, h, decide_eq_true hq]; rfl
 have h3 := run_eqGuard_agg W .neq t x y [Value.int k1 a, .int k2 b].toArray [Value.int k1 c, .int k2 d].toArray hg
 simp only [execOp, hx, hy, Sem.run_bind, h3, h2, Result.andThen_ok]
 rfl
end
theorem i16_bd {z : Int} (h : (Lit.int .i16 z).wf = true) : -32768 ≤ z ∧ z ≤ 32767 := by
 simp [Lit.wf, IntKind.min, IntKind.max, IntKind.signed, IntKind.bits] at h; omega
theorem walk_OrderLines (k a m : Int) (w : World) (wk : (Lit.int .i64 k).wf = true) (wa : (Lit.int .i16 a).wf = true) (wm : (Lit.int .i16 m).wf = true) :
  Calls Try.prog 5 [.int .i64 k, .int .i16 a, .int .i16 m].toArray w fun e w' => e = .returned (.bool true) ∧ Below w.heap.size w w' := by
 have H := Heap.nil w
 have ba := i16_bd wa
 have bm := i16_bd wm
 by_cases hbad : a < 0 ∨ m < 1
 ·have hL := fun W => oLines0 k a m W hbad
  by_cases h1 : a < 0
  ·refine k_in (N := 59) Try.func5 rfl rfl rfl ?_
   refine k_sg ?_
   refine s_run rfl rfl (rab rfl) ?_
   refine k_nc ?_
   refine k_seq ?_
   refine k_sg ?_
   refine s_call rfl (awake35 _) (ca17 rfl) ?_
   rintro e W1 ⟨rfl, H'⟩
   refine ⟨_, rfl, ?_⟩
   have H := H.same H'; clear H'
   refine s_run rfl rfl (r_notT rfl) ?_
   refine k_nc ?_
   refine k_f rfl ?_
   refine k_skip ?_
   refine c_norm ?_
   refine k_sg ?_
   refine s_run rfl rfl (rmi rfl) ?_
   refine s_run rfl rfl (rmi rfl) ?_
   refine s_run rfl rfl (r_cv rfl (by kernel_rfl) Try.underlying3 (wI (by omega))) ?_
   refine s_run rfl rfl (rmi rfl) ?_
   refine s_run rfl rfl (r_cv rfl (by kernel_rfl) Try.underlying3 (wI (by omega))) ?_
   refine s_call rfl (hL _) (ca28 rfl) ?_
   rintro e W1 ⟨rfl, H'⟩
   refine ⟨_, rfl, ?_⟩
   have H := H.same H'; clear H'
   refine s_run rfl rfl (ras rfl) ?_
   refine k_nc ?_
   refine k_seq ?_
   refine k_sg ?_
   refine s_run rfl rfl (rmi rfl) ?_
   refine s_run rfl rfl (r_lssT rfl rfl (by omega)) ?_
   refine s_run rfl rfl (rmb rfl) ?_
   refine s_off rfl (g_off 20 (by kernel_rfl) rfl rfl) ?_
   refine s_off rfl (g_off 20 (by kernel_rfl) rfl rfl) ?_
   refine s_run rfl rfl (r_pkT (v := .bool _) rfl rfl) ?_
   refine k_nc ?_
   refine k_t rfl ?_
   refine k_sg ?_
   refine s_run rfl rfl (rms rfl) ?_
   refine s_run rfl rfl (r_len rfl Try.underlying44) ?_
   refine s_run rfl rfl (r_eqlT rfl rfl (by omega)) ?_
   refine s_run rfl rfl (rab rfl) ?_
   refine k_nc ?_
   refine k_ret ?_
   refine c_ret ?_
   refine fin1r (v := .bool _) rfl rfl ?_
   exact ⟨rfl, H.below⟩
  ·refine k_in (N := 59) Try.func5 rfl rfl rfl ?_
   refine k_sg ?_
   refine s_run rfl rfl (rab rfl) ?_
   refine k_nc ?_
   refine k_seq ?_
   refine k_sg ?_
   refine s_call rfl (awake35 _) (ca17 rfl) ?_
   rintro e W1 ⟨rfl, H'⟩
   refine ⟨_, rfl, ?_⟩
   have H := H.same H'; clear H'
   refine s_run rfl rfl (r_notT rfl) ?_
   refine k_nc ?_
   refine k_f rfl ?_
   refine k_skip ?_
   refine c_norm ?_
   refine k_sg ?_
   refine s_run rfl rfl (rmi rfl) ?_
   refine s_run rfl rfl (rmi rfl) ?_
   refine s_run rfl rfl (r_cv rfl (by kernel_rfl) Try.underlying3 (wI (by omega))) ?_
   refine s_run rfl rfl (rmi rfl) ?_
   refine s_run rfl rfl (r_cv rfl (by kernel_rfl) Try.underlying3 (wI (by omega))) ?_
   refine s_call rfl (hL _) (ca28 rfl) ?_
   rintro e W1 ⟨rfl, H'⟩
   refine ⟨_, rfl, ?_⟩
   have H := H.same H'; clear H'
   refine s_run rfl rfl (ras rfl) ?_
   refine k_nc ?_
   refine k_seq ?_
   refine k_sg ?_
   refine s_run rfl rfl (rmi rfl) ?_
   refine s_run rfl rfl (r_lssF rfl rfl (by omega)) ?_
   refine s_run rfl rfl (rmb rfl) ?_
   refine s_run rfl (g_on 20 (by kernel_rfl) rfl) (rmi rfl) ?_
   refine s_run rfl (g_on 20 (by kernel_rfl) rfl) (r_lssT rfl rfl (by omega)) ?_
   refine s_run rfl rfl (r_pkF (v := .bool _) rfl rfl) ?_
   refine k_nc ?_
   refine k_t rfl ?_
   refine k_sg ?_
   refine s_run rfl rfl (rms rfl) ?_
   refine s_run rfl rfl (r_len rfl Try.underlying44) ?_
   refine s_run rfl rfl (r_eqlT rfl rfl (by omega)) ?_
   refine s_run rfl rfl (rab rfl) ?_
   refine k_nc ?_
   refine k_ret ?_
   refine c_ret ?_
   refine fin1r (v := .bool _) rfl rfl ?_
   exact ⟨rfl, H.below⟩
 ·obtain ⟨a, rfl⟩ := Int.eq_ofNat_of_zero_le (show 0 ≤ a by omega)
  obtain ⟨m, rfl⟩ := Int.eq_ofNat_of_zero_le (show 0 ≤ m by omega)
  have hL := fun W => oLines k a m W (by omega) (by omega)
  obtain ⟨N, hN⟩ : ∃ N, (a + m - 1) / 8 - a / 8 + 1 = N := ⟨_, rfl⟩
  obtain ⟨F, hF⟩ : ∃ F, a / 8 = F := ⟨_, rfl⟩
  rw [hN, hF] at hL
  refine k_in (N := 59) Try.func5 rfl rfl rfl ?_
  refine k_sg ?_
  refine s_run rfl rfl (rab rfl) ?_
  refine k_nc ?_
  refine k_seq ?_
  refine k_sg ?_
  refine s_call rfl (awake35 _) (ca17 rfl) ?_
  rintro e W1 ⟨rfl, H'⟩
  refine ⟨_, rfl, ?_⟩
  have H := H.same H'; clear H'
  refine s_run rfl rfl (r_notT rfl) ?_
  refine k_nc ?_
  refine k_f rfl ?_
  refine k_skip ?_
  refine c_norm ?_
  refine k_sg ?_
  refine s_run rfl rfl (rmi rfl) ?_
  refine s_run rfl rfl (rmi rfl) ?_
  refine s_run rfl rfl (r_cv rfl (by kernel_rfl) Try.underlying3 (wI (by omega))) ?_
  refine s_run rfl rfl (rmi rfl) ?_
  refine s_run rfl rfl (r_cv rfl (by kernel_rfl) Try.underlying3 (wI (by omega))) ?_
  refine s_call rfl (hL _) (ca28 rfl) ?_
  rintro e W1 ⟨A, c, rfl, H'⟩
  refine ⟨_, rfl, ?_⟩
  have H := H.more H'; clear H'
  refine s_run rfl rfl (ras rfl) ?_
  refine k_nc ?_
  refine k_seq ?_
  refine k_sg ?_
  refine s_run rfl rfl (rmi rfl) ?_
  refine s_run rfl rfl (r_lssF rfl rfl (by omega)) ?_
  refine s_run rfl rfl (rmb rfl) ?_
  refine s_run rfl (g_on 20 (by kernel_rfl) rfl) (rmi rfl) ?_
  refine s_run rfl (g_on 20 (by kernel_rfl) rfl) (r_lssF rfl rfl (by omega)) ?_
  refine s_run rfl rfl (r_pkF (v := .bool _) rfl rfl) ?_
  refine k_nc ?_
  refine k_f rfl ?_
  refine k_skip ?_
  refine c_norm ?_
  refine k_sg ?_
  refine s_run rfl rfl (rmi rfl) ?_
  refine s_run rfl rfl (r_cv rfl (by kernel_rfl) Try.underlying3 (wI (by omega))) ?_
  refine s_run rfl rfl (r_quo rfl rfl (by omega) (wI (by omega))) ?_
  refine s_run rfl rfl (rai rfl) ?_
  refine k_nc ?_
  refine k_seq ?_
  refine k_sg ?_
  refine s_run rfl rfl (rms rfl) ?_
  refine s_run rfl rfl (r_len rfl Try.underlying44) ?_
  refine s_run rfl rfl (rmi rfl) ?_
  refine s_run rfl rfl (r_cv rfl (by kernel_rfl) Try.underlying3 (wI (by omega))) ?_
  refine s_run rfl rfl (rmi rfl) ?_
  refine s_run rfl rfl (r_cv rfl (by kernel_rfl) Try.underlying3 (wI (by omega))) ?_
  refine s_run rfl rfl (r_add rfl rfl (wI (by omega))) ?_
  refine s_run rfl rfl (r_sub rfl rfl (wI (by omega))) ?_
  refine s_run rfl rfl (r_quo rfl rfl (by omega) (wI (by omega))) ?_
  refine s_run rfl rfl (rmi rfl) ?_
  refine s_run rfl rfl (r_sub rfl rfl (wI (by omega))) ?_
  refine s_run rfl rfl (r_add rfl rfl (wI (by omega))) ?_
  refine s_run rfl rfl (r_neqF rfl rfl (by omega)) ?_
  refine k_nc ?_
  refine k_f rfl ?_
  refine k_skip ?_
  refine c_norm ?_
  refine k_seq ?_
  refine k_sg ?_
  refine s_run rfl rfl (rai rfl) ?_
  refine k_nc ?_
  refine k_b ?_
  refine k_loop (fun z f W => ∃ i : Nat, i ≤ N ∧ z = N - i ∧ f 0 = .int .i64 k ∧ f 7 = .slice A N c ∧ f 8 = .int .i64 ((F : Nat) : Int) ∧ f 9 = .int .i64 i ∧ Heap w [] [ownN 2 (.slice A N c) N ((lnN k F N).map C1.v) 49] W) N ⟨0, by omega, rfl, rfl, rfl, by rw [← hF]; rfl, rfl, H⟩ ?_
  clear H
  rintro z f W ⟨i, hi, rfl, f0, f7, f8, f9, H⟩
  by_cases hlt : i < N
  ·obtain ⟨b, hA, _, hr⟩ := H.own_seesN 0 rfl (by rw [lnN_len]; omega)
   obtain ⟨g1, g2⟩ := lnN_get k F N i hlt
   have hrd : Reads C1.v W b (i * 2) [C1.i .i64 k, C1.i .i64 ((F + i : Nat) : Int)] := fun j z hj => by
    match j, hj with
    | 0, hj => simp at hj; subst hj; have := hr _ _ g1; rw [Nat.zero_add] at this; exact this
    | 1, hj => simp at hj; subst hj; have := hr _ _ g2; rw [Nat.zero_add] at this; exact this
   rw [hA] at f7 H
   obtain ⟨f, rfl⟩ := live4 f0 f7 f8 f9
   clear f0 f7 f8 f9
   refine k_seq ?_
   refine k_sg ?_
   refine s_run rfl rfl (rmi rfl) ?_
   refine s_run rfl rfl (rms rfl) ?_
   refine s_run rfl rfl (r_len rfl Try.underlying44) ?_
   refine s_run rfl rfl (r_lssT rfl rfl (by omega)) ?_
   refine k_nc ?_
   refine k_t rfl ?_
   refine k_skip ?_
   refine c_norm ?_
   refine k_seq ?_
   refine k_b ?_
   refine k_sg ?_
   refine s_run rfl rfl (rms rfl) ?_
   refine s_run rfl rfl (rmi rfl) ?_
   refine s_run rfl rfl (r_ix0 (i := i) rfl rfl (by omega) (by omega) Try.underlying44 sz49) ?_
   refine s_run rfl rfl (r_lA (enc := C1.v) (zs := [C1.i .i64 k, C1.i .i64 ((F + i : Nat) : Int)]) hrd rfl rfl ag49 sz49) ?_
   refine s_run rfl rfl (rmi rfl) ?_
   refine s_run rfl rfl (rmi rfl) ?_
   refine s_run rfl rfl (rmi rfl) ?_
   refine s_run rfl rfl (r_add rfl rfl (wI (by omega))) ?_
   refine s_run rfl rfl (r_bd (bd49_0_1 _ _) rfl) ?_
   refine s_run rfl rfl (r_st2n rfl rfl (by kernel_rfl) (by kernel_rfl) (by kernel_rfl) (by kernel_rfl) Try.underlying3 Try.underlying3 ⟨rfl, by omega⟩) ?_
   refine k_nc ?_
   refine k_f rfl ?_
   refine k_skip ?_
   refine b_norm ?_
   refine c_norm ?_
   refine k_rg ?_
   refine s_run rfl rfl (rmi rfl) ?_
   refine s_run rfl rfl (r_add rfl rfl (wI (by omega))) ?_
   refine s_run rfl rfl (rai rfl) ?_
   refine k_nil ?_
   refine c_round ?_
   refine ⟨_, _, ?_, rfl, i + 1, by omega, rfl, rfl, by rw [hA]; rfl, rfl, rfl, by rw [hA]; exact H⟩
   omega
  ·obtain rfl : i = N := by omega
   obtain ⟨f, rfl⟩ := live4 f0 f7 f8 f9
   clear f0 f7 f8 f9
   refine k_seq ?_
   refine k_sg ?_
   refine s_run rfl rfl (rmi rfl) ?_
   refine s_run rfl rfl (rms rfl) ?_
   refine s_run rfl rfl (r_len rfl Try.underlying44) ?_
   refine s_run rfl rfl (r_lssF rfl rfl (by omega)) ?_
   refine k_nc ?_
   refine k_f rfl ?_
   refine k_exit ?_
   refine c_exit ?_
   refine c_exit ?_
   refine b_hit ?_
   refine c_norm ?_
   refine k_sg ?_
   refine s_run rfl rfl (rab rfl) ?_
   refine k_nc ?_
   refine k_ret ?_
   refine fin1r (v := .bool _) rfl rfl ?_
   exact ⟨rfl, H.below⟩
end Go.Proofs.Ytpbimgopiammaaa
end

section
namespace Go.Proofs.Ytpbimgopiammaaa.lOrderLines
open Go.ChangeShapes Go.WideShapes Go.ChangeAt Go.RowKit
theorem own : ownKnob Try.prog.godebug = none := by kernel_rfl
theorem laidOut : laidOutB Try.prog = true := by kernel_rfl
set_option maxRecDepth 100000 in
theorem lifted (os : Os) (started : os.Started) (H : Type) (enc : TypeId × Value → H) :
  ReturnsInHanded {} Try.checked os 5 .any (Rows.orderLinesSpec.pre6 enc Try.prog Try.f5 Rows.orderLinesRow.domain false) (Rows.orderLinesSpec.post enc Try.prog Try.f5 false true false false) := by
 refine returnsInHanded_of_change (C := Try.checked) own started (by kernel_rfl) Try.func5
  (ChangeSpec.witness6 (enc := enc) (C := Try.checked) false ⟨#[], #[.int .i64 0, .int .i16 0, .int .i16 0], []⟩ 8 (by kernel_rfl) (by kernel_rfl) (by kernel_rfl) (by kernel_rfl)) ?_
 intro W base args ds gs before hval0 hW hcnd _
 have hval : ∀ (j : Nat) t v, Try.f5.params[j]? = some t → args[j]? = some v → Value.okWide Try.prog W .any base t v := hval0
 have hW' := hW
 obtain ⟨p, q, hA0, hV, rfl, hfz, hnd⟩ := hW
 have hA : DataW.TrodAll enc Try.prog W 0 (fun _ => true) true Try.f5.params.toList args.toList ds p := hA0
 rw [Try.params5] at hA hval
 obtain ⟨v0, vs0, d0, ds0, p0, q0, hargs, rfl, rfl, h0, r0⟩ := trodAll_cons hA
 obtain ⟨v1, vs1, d1, ds1, p1, q1, rfl, rfl, rfl, h1, r1⟩ := trodAll_cons r0
 obtain ⟨v2, vs2, d2, ds2, p2, q2, rfl, rfl, rfl, h2, r2⟩ := trodAll_cons r1
 obtain ⟨rfl, rfl, rfl⟩ := trodAll_nil r2
 obtain rfl : args = #[v0, v1, v2] := by cases args; simp_all
 obtain ⟨rfl, rfl⟩ := trodVars_none hV
 have k0 := h0
 have lt0 : ∀ x ∈ p0, x.block < W.heap.size := by obtain ⟨m, hm⟩ := k0; exact DataW.trod_lt m _ _ _ hm
 have k1 := h1
 have lt1 : ∀ x ∈ p1, x.block < W.heap.size := by obtain ⟨m, hm⟩ := k1; exact DataW.trod_lt m _ _ _ hm
 have k2 := h2
 have lt2 : ∀ x ∈ p2, x.block < W.heap.size := by obtain ⟨m, hm⟩ := k2; exact DataW.trod_lt m _ _ _ hm
 obtain ⟨a0, rfl, rfl, rfl, w0⟩ := open_int Try.underlying3 (hval 0 3 v0 rfl rfl) h0
 obtain ⟨a1, rfl, rfl, rfl, w1⟩ := open_int Try.underlying62 (hval 1 62 v1 rfl rfl) h1
 obtain ⟨a2, rfl, rfl, rfl, w2⟩ := open_int Try.underlying62 (hval 2 62 v2 rfl rfl) h2
 clear hA0 hval0
 refine (walk_OrderLines a0 a1 a2 W w0 w1 w2).mono fun e W' ⟨he, bel⟩ => ?_
 subst he
 exact ⟨_, rfl, _, _, _, [], _, [], hW', trodAll_mk1 (shut_bool Try.underlying4 _), (trodAll_cons_mk (Below.trod laidOut (by kernel_rfl) (of_decide_eq_true (by kernel_rfl)) k0 bel lt0) (trodAll_cons_mk (Below.trod laidOut (by kernel_rfl) (of_decide_eq_true (by kernel_rfl)) k1 bel lt1) (trodAll_cons_mk (Below.trod laidOut (by kernel_rfl) (of_decide_eq_true (by kernel_rfl)) k2 bel lt2) trodAll_mk0))), rfl, bel.frame _, fun h => by cases h⟩
theorem over : Rows.orderLinesRow.holds Try.pinned (OpenSpec.ofChange Rows.orderLinesSpec) :=
 OpenClaim.holds_of_wide 5 Try.f5 rfl rfl rfl rfl rfl rfl rfl ⟨rfl, rfl, rfl, rfl, rfl⟩ rfl rfl rfl rfl rfl (by kernel_rfl) Try.func5 (by kernel_rfl)
  (of_decide_eq_true (by kernel_rfl)) (by unfold Func.isWrapper; first | (rw [if_pos (by decide +kernel)]; kernel_rfl) | (rw [if_neg (by decide +kernel)]; exact ⟨rfl, rfl⟩))
  (fun os started H enc _ => lifted os started H enc)
theorem proved : Rows.OrderLinesSaid := over
#print axioms proved
end Go.Proofs.Ytpbimgopiammaaa.lOrderLines
end
