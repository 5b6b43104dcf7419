/- Parts of the proof, one behind the other. -/
import Derived.WalkKit
import Derived.Laws.BitsAllLaws
import Derived.Laws.StructEq
import Derived.Test.YtmekhdclnhhhbaaKRootsOpensa
set_option linter.unusedSimpArgs false
set_option linter.unusedVariables false
section
namespace Go.Proofs.Ytmekhdclnhhhbaa
open Go.RowKit
theorem sz2 (W : World) : (Go.sizeOf 2).run Try.prog W = .ok 1 W := by kernel_rfl
theorem ag3 (W : World) : (isAgg 3).run Try.prog W = .ok false W := by kernel_rfl
theorem sz3 (W : World) : (Go.sizeOf 3).run Try.prog W = .ok 1 W := by kernel_rfl
theorem ag4 (W : World) : (isAgg 4).run Try.prog W = .ok false W := by kernel_rfl
theorem sz4 (W : World) : (Go.sizeOf 4).run Try.prog W = .ok 1 W := by kernel_rfl
theorem ag5 (W : World) : (isAgg 5).run Try.prog W = .ok false W := by kernel_rfl
theorem sz5 (W : World) : (Go.sizeOf 5).run Try.prog W = .ok 1 W := by kernel_rfl
theorem sz6 (W : World) : (Go.sizeOf 6).run Try.prog W = .ok 1 W := by kernel_rfl
theorem ag22 (W : World) : (isAgg 22).run Try.prog W = .ok false W := by kernel_rfl
theorem sz22 (W : World) : (Go.sizeOf 22).run Try.prog W = .ok 1 W := by kernel_rfl
theorem ag25 (W : World) : (isAgg 25).run Try.prog W = .ok false W := by kernel_rfl
theorem ag26 (W : World) : (isAgg 26).run Try.prog W = .ok false W := by kernel_rfl
theorem ag52 (W : World) : (isAgg 52).run Try.prog W = .ok false W := by kernel_rfl
theorem sz52 (W : World) : (Go.sizeOf 52).run Try.prog W = .ok 1 W := by kernel_rfl
theorem ag53 (W : World) : (isAgg 53).run Try.prog W = .ok false W := by kernel_rfl
theorem sz53 (W : World) : (Go.sizeOf 53).run Try.prog W = .ok 1 W := by kernel_rfl
theorem ag55 (W : World) : (isAgg 55).run Try.prog W = .ok true W := by kernel_rfl
theorem sz55 (W : World) : (Go.sizeOf 55).run Try.prog W = .ok 8 W := by kernel_rfl
theorem fo55_0 (a : Addr) (W : World) : (Instr.fieldAt 55 (.pointer (some a)) 0).run Try.prog W = .ok (.pointer (some (a.add 0))) W := by kernel_rfl
theorem fo55_1 (a : Addr) (W : World) : (Instr.fieldAt 55 (.pointer (some a)) 1).run Try.prog W = .ok (.pointer (some (a.add 1))) W := by kernel_rfl
theorem fo55_2 (a : Addr) (W : World) : (Instr.fieldAt 55 (.pointer (some a)) 2).run Try.prog W = .ok (.pointer (some (a.add 2))) W := by kernel_rfl
theorem fo55_3 (a : Addr) (W : World) : (Instr.fieldAt 55 (.pointer (some a)) 3).run Try.prog W = .ok (.pointer (some (a.add 3))) W := by kernel_rfl
theorem fo55_4 (a : Addr) (W : World) : (Instr.fieldAt 55 (.pointer (some a)) 4).run Try.prog W = .ok (.pointer (some (a.add 4))) W := by kernel_rfl
theorem fo55_5 (a : Addr) (W : World) : (Instr.fieldAt 55 (.pointer (some a)) 5).run Try.prog W = .ok (.pointer (some (a.add 5))) W := by kernel_rfl
theorem fo55_6 (a : Addr) (W : World) : (Instr.fieldAt 55 (.pointer (some a)) 6).run Try.prog W = .ok (.pointer (some (a.add 6))) W := by kernel_rfl
theorem fo55_7 (a : Addr) (W : World) : (Instr.fieldAt 55 (.pointer (some a)) 7).run Try.prog W = .ok (.pointer (some (a.add 7))) W := by kernel_rfl
theorem ag87 (W : World) : (isAgg 87).run Try.prog W = .ok true W := by kernel_rfl
theorem sz87 (W : World) : (Go.sizeOf 87).run Try.prog W = .ok 8 W := by kernel_rfl
theorem ag89 (W : World) : (isAgg 89).run Try.prog W = .ok true W := by kernel_rfl
theorem sz89 (W : World) : (Go.sizeOf 89).run Try.prog W = .ok 9 W := by kernel_rfl
theorem fo89_0 (a : Addr) (W : World) : (Instr.fieldAt 89 (.pointer (some a)) 0).run Try.prog W = .ok (.pointer (some (a.add 0))) W := by kernel_rfl
theorem fo89_1 (a : Addr) (W : World) : (Instr.fieldAt 89 (.pointer (some a)) 1).run Try.prog W = .ok (.pointer (some (a.add 1))) W := by kernel_rfl
theorem ag91 (W : World) : (isAgg 91).run Try.prog W = .ok true W := by kernel_rfl
theorem sz91 (W : World) : (Go.sizeOf 91).run Try.prog W = .ok 26 W := by kernel_rfl
theorem fo91_0 (a : Addr) (W : World) : (Instr.fieldAt 91 (.pointer (some a)) 0).run Try.prog W = .ok (.pointer (some (a.add 0))) W := by kernel_rfl
theorem fo91_1 (a : Addr) (W : World) : (Instr.fieldAt 91 (.pointer (some a)) 1).run Try.prog W = .ok (.pointer (some (a.add 8))) W := by kernel_rfl
theorem fo91_3 (a : Addr) (W : World) : (Instr.fieldAt 91 (.pointer (some a)) 3).run Try.prog W = .ok (.pointer (some (a.add 18))) W := by kernel_rfl
theorem ag99 (W : World) : (isAgg 99).run Try.prog W = .ok true W := by kernel_rfl
theorem sz99 (W : World) : (Go.sizeOf 99).run Try.prog W = .ok 16 W := by kernel_rfl
theorem fo114_0 (a : Addr) (W : World) : (Instr.fieldAt 114 (.pointer (some a)) 0).run Try.prog W = .ok (.pointer (some (a.add 0))) W := by kernel_rfl
theorem fo114_1 (a : Addr) (W : World) : (Instr.fieldAt 114 (.pointer (some a)) 1).run Try.prog W = .ok (.pointer (some (a.add 1))) W := by kernel_rfl
theorem fo114_2 (a : Addr) (W : World) : (Instr.fieldAt 114 (.pointer (some a)) 2).run Try.prog W = .ok (.pointer (some (a.add 2))) W := by kernel_rfl
theorem fo114_3 (a : Addr) (W : World) : (Instr.fieldAt 114 (.pointer (some a)) 3).run Try.prog W = .ok (.pointer (some (a.add 3))) W := by kernel_rfl
theorem fo114_4 (a : Addr) (W : World) : (Instr.fieldAt 114 (.pointer (some a)) 4).run Try.prog W = .ok (.pointer (some (a.add 4))) W := by kernel_rfl
theorem fo114_5 (a : Addr) (W : World) : (Instr.fieldAt 114 (.pointer (some a)) 5).run Try.prog W = .ok (.pointer (some (a.add 5))) W := by kernel_rfl
theorem fo114_6 (a : Addr) (W : World) : (Instr.fieldAt 114 (.pointer (some a)) 6).run Try.prog W = .ok (.pointer (some (a.add 6))) W := by kernel_rfl
theorem fo114_7 (a : Addr) (W : World) : (Instr.fieldAt 114 (.pointer (some a)) 7).run Try.prog W = .ok (.pointer (some (a.add 7))) W := by kernel_rfl
theorem fo114_8 (a : Addr) (W : World) : (Instr.fieldAt 114 (.pointer (some a)) 8).run Try.prog W = .ok (.pointer (some (a.add 8))) W := by kernel_rfl
theorem ag124 (W : World) : (isAgg 124).run Try.prog W = .ok true W := by kernel_rfl
theorem sz124 (W : World) : (Go.sizeOf 124).run Try.prog W = .ok 8 W := by kernel_rfl
theorem ag144 (W : World) : (isAgg 144).run Try.prog W = .ok true W := by kernel_rfl
theorem sz144 (W : World) : (Go.sizeOf 144).run Try.prog W = .ok 9 W := by kernel_rfl
theorem fo144_0 (a : Addr) (W : World) : (Instr.fieldAt 144 (.pointer (some a)) 0).run Try.prog W = .ok (.pointer (some (a.add 0))) W := by kernel_rfl
theorem fo144_1 (a : Addr) (W : World) : (Instr.fieldAt 144 (.pointer (some a)) 1).run Try.prog W = .ok (.pointer (some (a.add 1))) W := by kernel_rfl
theorem fo149_0 (a : Addr) (W : World) : (Instr.fieldAt 149 (.pointer (some a)) 0).run Try.prog W = .ok (.pointer (some (a.add 0))) W := by kernel_rfl
theorem fo149_1 (a : Addr) (W : World) : (Instr.fieldAt 149 (.pointer (some a)) 1).run Try.prog W = .ok (.pointer (some (a.add 1))) W := by kernel_rfl
theorem fo149_2 (a : Addr) (W : World) : (Instr.fieldAt 149 (.pointer (some a)) 2).run Try.prog W = .ok (.pointer (some (a.add 10))) W := by kernel_rfl
theorem fo149_3 (a : Addr) (W : World) : (Instr.fieldAt 149 (.pointer (some a)) 3).run Try.prog W = .ok (.pointer (some (a.add 11))) W := by kernel_rfl
theorem inf3 : Inf Try.prog 3 (.int .i64 0) 1 8 := inf_of (by kernel_rfl)
theorem inf4 : Inf Try.prog 4 (.bool false) 1 1 := inf_of (by kernel_rfl)
theorem inf22 : Inf Try.prog 22 (.int .u64 0) 1 8 := inf_of (by kernel_rfl)
theorem inf55 : Inf Try.prog 55 (.agg [.slice none 0 0, .slice none 0 0, .slice none 0 0, .slice none 0 0, .slice none 0 0, .int .i64 0, .int .i64 0, .bool false].toArray) 8 144 := inf_of (by kernel_rfl)
theorem inf87 : Inf Try.prog 87 (.agg [.int .i64 0, .int .i64 0, .int .i64 0, .int .i64 0, .int .i64 0, .int .i64 0, .int .i64 0, .int .i64 0].toArray) 8 64 := inf_of (by kernel_rfl)
theorem inf89 : Inf Try.prog 89 (.agg [.int .u64 0, .int .i64 0, .int .i64 0, .int .i64 0, .int .i64 0, .int .i64 0, .int .i64 0, .int .i64 0, .int .i64 0].toArray) 9 72 := inf_of (by kernel_rfl)
theorem inf91 : Inf Try.prog 91 (.agg [.slice none 0 0, .slice none 0 0, .slice none 0 0, .slice none 0 0, .slice none 0 0, .int .i64 0, .int .i64 0, .bool false, .int .u64 0, .int .i64 0, .int .i64 0, .int .i64 0, .int .i64 0, .int .i64 0, .int .i64 0, .int .i64 0, .int .i64 0, .int .i64 0, .int .i64 0, .int .i64 0, .int .i64 0, .int .i64 0, .int .i64 0, .int .i64 0, .int .i64 0, .int .i64 0].toArray) 26 288 := inf_of (by kernel_rfl)
theorem inf99 : Inf Try.prog 99 (.agg [.int .u64 0, .int .u64 0, .int .u64 0, .int .u64 0, .int .u64 0, .int .u64 0, .int .u64 0, .int .u64 0, .int .u64 0, .int .u64 0, .int .u64 0, .int .u64 0, .int .u64 0, .int .u64 0, .int .u64 0, .int .u64 0].toArray) 16 128 := inf_of (by kernel_rfl)
theorem inf124 : Inf Try.prog 124 (.agg [.int .u64 0, .int .u64 0, .int .u64 0, .int .u64 0, .int .u64 0, .int .u64 0, .int .u64 0, .int .u64 0].toArray) 8 64 := inf_of (by kernel_rfl)
theorem inf144 : Inf Try.prog 144 (.agg [.int .u64 0, .int .i64 0, .int .i64 0, .int .i64 0, .int .i64 0, .int .i64 0, .int .i64 0, .int .i64 0, .int .i64 0].toArray) 9 72 := inf_of (by kernel_rfl)
theorem bd89_0 (z0 : Int) (W : World) : (Instr.build 89 ([(0, .int .u64 z0)] : List (Nat × Value)).toArray).run Try.prog W = .ok (.agg ([(.int .u64 z0), (.int .i64 0), (.int .i64 0), (.int .i64 0), (.int .i64 0), (.int .i64 0), (.int .i64 0), (.int .i64 0), (.int .i64 0)] : List Value).toArray) W := by kernel_rfl
theorem bd91  (W : World) : (Instr.build 91 ([] : List (Nat × Value)).toArray).run Try.prog W = .ok (.agg ([(.slice none 0 0), (.slice none 0 0), (.slice none 0 0), (.slice none 0 0), (.slice none 0 0), (.int .i64 0), (.int .i64 0), (.bool false), (.int .u64 0), (.int .i64 0), (.int .i64 0), (.int .i64 0), (.int .i64 0), (.int .i64 0), (.int .i64 0), (.int .i64 0), (.int .i64 0), (.int .i64 0), (.int .i64 0), (.int .i64 0), (.int .i64 0), (.int .i64 0), (.int .i64 0), (.int .i64 0), (.int .i64 0), (.int .i64 0)] : List Value).toArray) W := by kernel_rfl
theorem bd91_0_1_2_3 (y0_0 y0_1 y0_2 y0_3 y0_4 y0_5 y0_6 y0_7 : Value) (y1_0 y1_1 y1_2 y1_3 y1_4 y1_5 y1_6 y1_7 y1_8 : Value) (z2 : Int) (y3_0 y3_1 y3_2 y3_3 y3_4 y3_5 y3_6 y3_7 : Value) (W : World) : (Instr.build 91 ([(0, .agg [y0_0, y0_1, y0_2, y0_3, y0_4, y0_5, y0_6, y0_7].toArray), (1, .agg [y1_0, y1_1, y1_2, y1_3, y1_4, y1_5, y1_6, y1_7, y1_8].toArray), (2, .int .i64 z2), (3, .agg [y3_0, y3_1, y3_2, y3_3, y3_4, y3_5, y3_6, y3_7].toArray)] : List (Nat × Value)).toArray).run Try.prog W = .ok (.agg ([y0_0, y0_1, y0_2, y0_3, y0_4, y0_5, y0_6, y0_7, y1_0, y1_1, y1_2, y1_3, y1_4, y1_5, y1_6, y1_7, y1_8, (.int .i64 z2), y3_0, y3_1, y3_2, y3_3, y3_4, y3_5, y3_6, y3_7] : List Value).toArray) W := by kernel_rfl
theorem bd114_0_1_2_3_4 (z0 : Option Addr) (l0 c0 : Nat) (z1 : Option Addr) (l1 c1 : Nat) (z2 : Option Addr) (l2 c2 : Nat) (z3 : Option Addr) (l3 c3 : Nat) (z4 : Option Addr) (l4 c4 : Nat) (W : World) : (Instr.build 114 ([(0, .slice z0 l0 c0), (1, .slice z1 l1 c1), (2, .slice z2 l2 c2), (3, .slice z3 l3 c3), (4, .slice z4 l4 c4)] : List (Nat × Value)).toArray).run Try.prog W = .ok (.agg ([(.slice z0 l0 c0), (.slice z1 l1 c1), (.slice z2 l2 c2), (.slice z3 l3 c3), (.slice z4 l4 c4), (.int .i64 0), (.int .i64 0), (.bool false), (.bool false)] : List Value).toArray) W := by kernel_rfl
theorem bd124  (W : World) : (Instr.build 124 ([] : List (Nat × Value)).toArray).run Try.prog W = .ok (.agg ([(.int .u64 0), (.int .u64 0), (.int .u64 0), (.int .u64 0), (.int .u64 0), (.int .u64 0), (.int .u64 0), (.int .u64 0)] : List Value).toArray) W := by kernel_rfl
theorem bd144_0 (z0 : Int) (W : World) : (Instr.build 144 ([(0, .int .u64 z0)] : List (Nat × Value)).toArray).run Try.prog W = .ok (.agg ([(.int .u64 z0), (.int .i64 0), (.int .i64 0), (.int .i64 0), (.int .i64 0), (.int .i64 0), (.int .i64 0), (.int .i64 0), (.int .i64 0)] : List Value).toArray) W := by kernel_rfl
theorem bd144_0_1 (z0 : Int) (y1_0 y1_1 y1_2 y1_3 y1_4 y1_5 y1_6 y1_7 : Value) (W : World) : (Instr.build 144 ([(0, .int .u64 z0), (1, .agg [y1_0, y1_1, y1_2, y1_3, y1_4, y1_5, y1_6, y1_7].toArray)] : List (Nat × Value)).toArray).run Try.prog W = .ok (.agg ([(.int .u64 z0), y1_0, y1_1, y1_2, y1_3, y1_4, y1_5, y1_6, y1_7] : List Value).toArray) W := by kernel_rfl
theorem bd149_0_1_2_3 (z0 : Option Addr) (y1_0 y1_1 y1_2 y1_3 y1_4 y1_5 y1_6 y1_7 y1_8 : Value) (z2 : Int) (y3_0 y3_1 y3_2 y3_3 y3_4 y3_5 y3_6 y3_7 : Value) (W : World) : (Instr.build 149 ([(0, .pointer z0), (1, .agg [y1_0, y1_1, y1_2, y1_3, y1_4, y1_5, y1_6, y1_7, y1_8].toArray), (2, .int .i64 z2), (3, .agg [y3_0, y3_1, y3_2, y3_3, y3_4, y3_5, y3_6, y3_7].toArray)] : List (Nat × Value)).toArray).run Try.prog W = .ok (.agg ([(.pointer z0), y1_0, y1_1, y1_2, y1_3, y1_4, y1_5, y1_6, y1_7, y1_8, (.int .i64 z2), y3_0, y3_1, y3_2, y3_3, y3_4, y3_5, y3_6, y3_7] : List Value).toArray) W := by kernel_rfl
theorem mixed : Try.prog.follows .mixedOrders = true := by kernel_rfl
variable {n : Nat} {f : Nat → Value} {ty : TypeId} {pos : String} {af : Array Edge} {g : Option (Nat × Bool)} {xs : Array Operand} {tys : Array TypeId} {dst : Option Tmp} {vs : List Value}
theorem ca16 (hv : xs.toList.map (ev n f) = vs) (W : World) : (execOp (ev n f) ⟨dst, .call ⟨.value (.func 16), xs, tys⟩, ty, pos, af, g⟩).run Try.prog W = .ok (.enter 16 vs.toArray) W := r_call Try.func16 (by kernel_rfl) (by kernel_rfl) hv W
theorem ca21 (hv : xs.toList.map (ev n f) = vs) (W : World) : (execOp (ev n f) ⟨dst, .call ⟨.value (.func 21), xs, tys⟩, ty, pos, af, g⟩).run Try.prog W = .ok (.enter 21 vs.toArray) W := r_call Try.func21 (by kernel_rfl) (by kernel_rfl) hv W
theorem ca23 (hv : xs.toList.map (ev n f) = vs) (W : World) : (execOp (ev n f) ⟨dst, .call ⟨.value (.func 23), xs, tys⟩, ty, pos, af, g⟩).run Try.prog W = .ok (.enter 23 vs.toArray) W := r_call Try.func23 (by kernel_rfl) (by kernel_rfl) hv W
theorem ca24 (hv : xs.toList.map (ev n f) = vs) (W : World) : (execOp (ev n f) ⟨dst, .call ⟨.value (.func 24), xs, tys⟩, ty, pos, af, g⟩).run Try.prog W = .ok (.enter 24 vs.toArray) W := r_call Try.func24 (by kernel_rfl) (by kernel_rfl) hv W
theorem ca25 (hv : xs.toList.map (ev n f) = vs) (W : World) : (execOp (ev n f) ⟨dst, .call ⟨.value (.func 25), xs, tys⟩, ty, pos, af, g⟩).run Try.prog W = .ok (.enter 25 vs.toArray) W := r_call Try.func25 (by kernel_rfl) (by kernel_rfl) hv W
theorem ca26 (hv : xs.toList.map (ev n f) = vs) (W : World) : (execOp (ev n f) ⟨dst, .call ⟨.value (.func 26), xs, tys⟩, ty, pos, af, g⟩).run Try.prog W = .ok (.enter 26 vs.toArray) W := r_call Try.func26 (by kernel_rfl) (by kernel_rfl) hv W
theorem ca27 (hv : xs.toList.map (ev n f) = vs) (W : World) : (execOp (ev n f) ⟨dst, .call ⟨.value (.func 27), xs, tys⟩, ty, pos, af, g⟩).run Try.prog W = .ok (.enter 27 vs.toArray) W := r_call Try.func27 (by kernel_rfl) (by kernel_rfl) hv W
theorem ca28 (hv : xs.toList.map (ev n f) = vs) (W : World) : (execOp (ev n f) ⟨dst, .call ⟨.value (.func 28), xs, tys⟩, ty, pos, af, g⟩).run Try.prog W = .ok (.enter 28 vs.toArray) W := r_call Try.func28 (by kernel_rfl) (by kernel_rfl) hv W
theorem ca29 (hv : xs.toList.map (ev n f) = vs) (W : World) : (execOp (ev n f) ⟨dst, .call ⟨.value (.func 29), xs, tys⟩, ty, pos, af, g⟩).run Try.prog W = .ok (.enter 29 vs.toArray) W := r_call Try.func29 (by kernel_rfl) (by kernel_rfl) hv W
theorem ca30 (hv : xs.toList.map (ev n f) = vs) (W : World) : (execOp (ev n f) ⟨dst, .call ⟨.value (.func 30), xs, tys⟩, ty, pos, af, g⟩).run Try.prog W = .ok (.enter 30 vs.toArray) W := r_call Try.func30 (by kernel_rfl) (by kernel_rfl) hv W
theorem ca34 (hv : xs.toList.map (ev n f) = vs) (W : World) : (execOp (ev n f) ⟨dst, .call ⟨.value (.func 34), xs, tys⟩, ty, pos, af, g⟩).run Try.prog W = .ok (.enter 34 vs.toArray) W := r_call Try.func34 (by kernel_rfl) (by kernel_rfl) hv W
theorem ca35 (hv : xs.toList.map (ev n f) = vs) (W : World) : (execOp (ev n f) ⟨dst, .call ⟨.value (.func 35), xs, tys⟩, ty, pos, af, g⟩).run Try.prog W = .ok (.enter 35 vs.toArray) W := r_call Try.func35 (by kernel_rfl) (by kernel_rfl) hv W
theorem ca37 (hv : xs.toList.map (ev n f) = vs) (W : World) : (execOp (ev n f) ⟨dst, .call ⟨.value (.func 37), xs, tys⟩, ty, pos, af, g⟩).run Try.prog W = .ok (.enter 37 vs.toArray) W := r_call Try.func37 (by kernel_rfl) (by kernel_rfl) hv W
theorem ca38 (hv : xs.toList.map (ev n f) = vs) (W : World) : (execOp (ev n f) ⟨dst, .call ⟨.value (.func 38), xs, tys⟩, ty, pos, af, g⟩).run Try.prog W = .ok (.enter 38 vs.toArray) W := r_call Try.func38 (by kernel_rfl) (by kernel_rfl) hv W
theorem ca42 (hv : xs.toList.map (ev n f) = vs) (W : World) : (execOp (ev n f) ⟨dst, .call ⟨.value (.func 42), xs, tys⟩, ty, pos, af, g⟩).run Try.prog W = .ok (.enter 42 vs.toArray) W := r_call Try.func42 (by kernel_rfl) (by kernel_rfl) hv W
theorem ca43 (hv : xs.toList.map (ev n f) = vs) (W : World) : (execOp (ev n f) ⟨dst, .call ⟨.value (.func 43), xs, tys⟩, ty, pos, af, g⟩).run Try.prog W = .ok (.enter 43 vs.toArray) W := r_call Try.func43 (by kernel_rfl) (by kernel_rfl) hv W
theorem ca44 (hv : xs.toList.map (ev n f) = vs) (W : World) : (execOp (ev n f) ⟨dst, .call ⟨.value (.func 44), xs, tys⟩, ty, pos, af, g⟩).run Try.prog W = .ok (.enter 44 vs.toArray) W := r_call Try.func44 (by kernel_rfl) (by kernel_rfl) hv W
theorem ca47 (hv : xs.toList.map (ev n f) = vs) (W : World) : (execOp (ev n f) ⟨dst, .call ⟨.value (.func 47), xs, tys⟩, ty, pos, af, g⟩).run Try.prog W = .ok (.enter 47 vs.toArray) W := r_call Try.func47 (by kernel_rfl) (by kernel_rfl) hv W
theorem ca49 (hv : xs.toList.map (ev n f) = vs) (W : World) : (execOp (ev n f) ⟨dst, .call ⟨.value (.func 49), xs, tys⟩, ty, pos, af, g⟩).run Try.prog W = .ok (.enter 49 vs.toArray) W := r_call Try.func49 (by kernel_rfl) (by kernel_rfl) hv W
theorem ca56 (hv : xs.toList.map (ev n f) = vs) (W : World) : (execOp (ev n f) ⟨dst, .call ⟨.value (.func 56), xs, tys⟩, ty, pos, af, g⟩).run Try.prog W = .ok (.enter 56 vs.toArray) W := r_call Try.func56 (by kernel_rfl) (by kernel_rfl) hv W
theorem ca57 (hv : xs.toList.map (ev n f) = vs) (W : World) : (execOp (ev n f) ⟨dst, .call ⟨.value (.func 57), xs, tys⟩, ty, pos, af, g⟩).run Try.prog W = .ok (.enter 57 vs.toArray) W := r_call Try.func57 (by kernel_rfl) (by kernel_rfl) hv W
theorem ca58 (hv : xs.toList.map (ev n f) = vs) (W : World) : (execOp (ev n f) ⟨dst, .call ⟨.value (.func 58), xs, tys⟩, ty, pos, af, g⟩).run Try.prog W = .ok (.enter 58 vs.toArray) W := r_call Try.func58 (by kernel_rfl) (by kernel_rfl) hv W
theorem ca60 (hv : xs.toList.map (ev n f) = vs) (W : World) : (execOp (ev n f) ⟨dst, .call ⟨.value (.func 60), xs, tys⟩, ty, pos, af, g⟩).run Try.prog W = .ok (.enter 60 vs.toArray) W := r_call Try.func60 (by kernel_rfl) (by kernel_rfl) hv W
theorem ca61 (hv : xs.toList.map (ev n f) = vs) (W : World) : (execOp (ev n f) ⟨dst, .call ⟨.value (.func 61), xs, tys⟩, ty, pos, af, g⟩).run Try.prog W = .ok (.enter 61 vs.toArray) W := r_call Try.func61 (by kernel_rfl) (by kernel_rfl) hv W
theorem ca62 (hv : xs.toList.map (ev n f) = vs) (W : World) : (execOp (ev n f) ⟨dst, .call ⟨.value (.func 62), xs, tys⟩, ty, pos, af, g⟩).run Try.prog W = .ok (.enter 62 vs.toArray) W := r_call Try.func62 (by kernel_rfl) (by kernel_rfl) hv W
theorem ca64 (hv : xs.toList.map (ev n f) = vs) (W : World) : (execOp (ev n f) ⟨dst, .call ⟨.value (.func 64), xs, tys⟩, ty, pos, af, g⟩).run Try.prog W = .ok (.enter 64 vs.toArray) W := r_call Try.func64 (by kernel_rfl) (by kernel_rfl) hv W
theorem ca65 (hv : xs.toList.map (ev n f) = vs) (W : World) : (execOp (ev n f) ⟨dst, .call ⟨.value (.func 65), xs, tys⟩, ty, pos, af, g⟩).run Try.prog W = .ok (.enter 65 vs.toArray) W := r_call Try.func65 (by kernel_rfl) (by kernel_rfl) hv W
theorem ca70 (hv : xs.toList.map (ev n f) = vs) (W : World) : (execOp (ev n f) ⟨dst, .call ⟨.value (.func 70), xs, tys⟩, ty, pos, af, g⟩).run Try.prog W = .ok (.enter 70 vs.toArray) W := r_call Try.func70 (by kernel_rfl) (by kernel_rfl) hv W
theorem ca71 (hv : xs.toList.map (ev n f) = vs) (W : World) : (execOp (ev n f) ⟨dst, .call ⟨.value (.func 71), xs, tys⟩, ty, pos, af, g⟩).run Try.prog W = .ok (.enter 71 vs.toArray) W := r_call Try.func71 (by kernel_rfl) (by kernel_rfl) hv W
theorem ca72 (hv : xs.toList.map (ev n f) = vs) (W : World) : (execOp (ev n f) ⟨dst, .call ⟨.value (.func 72), xs, tys⟩, ty, pos, af, g⟩).run Try.prog W = .ok (.enter 72 vs.toArray) W := r_call Try.func72 (by kernel_rfl) (by kernel_rfl) hv W
theorem ca73 (hv : xs.toList.map (ev n f) = vs) (W : World) : (execOp (ev n f) ⟨dst, .call ⟨.value (.func 73), xs, tys⟩, ty, pos, af, g⟩).run Try.prog W = .ok (.enter 73 vs.toArray) W := r_call Try.func73 (by kernel_rfl) (by kernel_rfl) hv W
theorem ca75 (hv : xs.toList.map (ev n f) = vs) (W : World) : (execOp (ev n f) ⟨dst, .call ⟨.value (.func 75), xs, tys⟩, ty, pos, af, g⟩).run Try.prog W = .ok (.enter 75 vs.toArray) W := r_call Try.func75 (by kernel_rfl) (by kernel_rfl) hv W
theorem ca77 (hv : xs.toList.map (ev n f) = vs) (W : World) : (execOp (ev n f) ⟨dst, .call ⟨.value (.func 77), xs, tys⟩, ty, pos, af, g⟩).run Try.prog W = .ok (.enter 77 vs.toArray) W := r_call Try.func77 (by kernel_rfl) (by kernel_rfl) hv W
theorem ca78 (hv : xs.toList.map (ev n f) = vs) (W : World) : (execOp (ev n f) ⟨dst, .call ⟨.value (.func 78), xs, tys⟩, ty, pos, af, g⟩).run Try.prog W = .ok (.enter 78 vs.toArray) W := r_call Try.func78 (by kernel_rfl) (by kernel_rfl) hv W
theorem ca79 (hv : xs.toList.map (ev n f) = vs) (W : World) : (execOp (ev n f) ⟨dst, .call ⟨.value (.func 79), xs, tys⟩, ty, pos, af, g⟩).run Try.prog W = .ok (.enter 79 vs.toArray) W := r_call Try.func79 (by kernel_rfl) (by kernel_rfl) hv W
theorem ca90 (hv : xs.toList.map (ev n f) = vs) (W : World) : (execOp (ev n f) ⟨dst, .call ⟨.value (.func 90), xs, tys⟩, ty, pos, af, g⟩).run Try.prog W = .ok (.enter 90 vs.toArray) W := r_call Try.func90 (by kernel_rfl) (by kernel_rfl) hv W
theorem ca91 (hv : xs.toList.map (ev n f) = vs) (W : World) : (execOp (ev n f) ⟨dst, .call ⟨.value (.func 91), xs, tys⟩, ty, pos, af, g⟩).run Try.prog W = .ok (.enter 91 vs.toArray) W := r_call Try.func91 (by kernel_rfl) (by kernel_rfl) hv W
theorem ca92 (hv : xs.toList.map (ev n f) = vs) (W : World) : (execOp (ev n f) ⟨dst, .call ⟨.value (.func 92), xs, tys⟩, ty, pos, af, g⟩).run Try.prog W = .ok (.enter 92 vs.toArray) W := r_call Try.func92 (by kernel_rfl) (by kernel_rfl) hv W
theorem ca93 (hv : xs.toList.map (ev n f) = vs) (W : World) : (execOp (ev n f) ⟨dst, .call ⟨.value (.func 93), xs, tys⟩, ty, pos, af, g⟩).run Try.prog W = .ok (.enter 93 vs.toArray) W := r_call Try.func93 (by kernel_rfl) (by kernel_rfl) hv W
theorem ca94 (hv : xs.toList.map (ev n f) = vs) (W : World) : (execOp (ev n f) ⟨dst, .call ⟨.value (.func 94), xs, tys⟩, ty, pos, af, g⟩).run Try.prog W = .ok (.enter 94 vs.toArray) W := r_call Try.func94 (by kernel_rfl) (by kernel_rfl) hv W
theorem ca95 (hv : xs.toList.map (ev n f) = vs) (W : World) : (execOp (ev n f) ⟨dst, .call ⟨.value (.func 95), xs, tys⟩, ty, pos, af, g⟩).run Try.prog W = .ok (.enter 95 vs.toArray) W := r_call Try.func95 (by kernel_rfl) (by kernel_rfl) hv W
theorem ca96 (hv : xs.toList.map (ev n f) = vs) (W : World) : (execOp (ev n f) ⟨dst, .call ⟨.value (.func 96), xs, tys⟩, ty, pos, af, g⟩).run Try.prog W = .ok (.enter 96 vs.toArray) W := r_call Try.func96 (by kernel_rfl) (by kernel_rfl) hv W
theorem ca97 (hv : xs.toList.map (ev n f) = vs) (W : World) : (execOp (ev n f) ⟨dst, .call ⟨.value (.func 97), xs, tys⟩, ty, pos, af, g⟩).run Try.prog W = .ok (.enter 97 vs.toArray) W := r_call Try.func97 (by kernel_rfl) (by kernel_rfl) hv W
theorem ca98 (hv : xs.toList.map (ev n f) = vs) (W : World) : (execOp (ev n f) ⟨dst, .call ⟨.value (.func 98), xs, tys⟩, ty, pos, af, g⟩).run Try.prog W = .ok (.enter 98 vs.toArray) W := r_call Try.func98 (by kernel_rfl) (by kernel_rfl) hv W
theorem ca102 (hv : xs.toList.map (ev n f) = vs) (W : World) : (execOp (ev n f) ⟨dst, .call ⟨.value (.func 102), xs, tys⟩, ty, pos, af, g⟩).run Try.prog W = .ok (.enter 102 vs.toArray) W := r_call Try.func102 (by kernel_rfl) (by kernel_rfl) hv W
theorem ca103 (hv : xs.toList.map (ev n f) = vs) (W : World) : (execOp (ev n f) ⟨dst, .call ⟨.value (.func 103), xs, tys⟩, ty, pos, af, g⟩).run Try.prog W = .ok (.enter 103 vs.toArray) W := r_call Try.func103 (by kernel_rfl) (by kernel_rfl) hv W
theorem ca104 (hv : xs.toList.map (ev n f) = vs) (W : World) : (execOp (ev n f) ⟨dst, .call ⟨.value (.func 104), xs, tys⟩, ty, pos, af, g⟩).run Try.prog W = .ok (.enter 104 vs.toArray) W := r_call Try.func104 (by kernel_rfl) (by kernel_rfl) hv W
theorem ca105 (hv : xs.toList.map (ev n f) = vs) (W : World) : (execOp (ev n f) ⟨dst, .call ⟨.value (.func 105), xs, tys⟩, ty, pos, af, g⟩).run Try.prog W = .ok (.enter 105 vs.toArray) W := r_call Try.func105 (by kernel_rfl) (by kernel_rfl) hv W
theorem ca106 (hv : xs.toList.map (ev n f) = vs) (W : World) : (execOp (ev n f) ⟨dst, .call ⟨.value (.func 106), xs, tys⟩, ty, pos, af, g⟩).run Try.prog W = .ok (.enter 106 vs.toArray) W := r_call Try.func106 (by kernel_rfl) (by kernel_rfl) hv W
theorem ca107 (hv : xs.toList.map (ev n f) = vs) (W : World) : (execOp (ev n f) ⟨dst, .call ⟨.value (.func 107), xs, tys⟩, ty, pos, af, g⟩).run Try.prog W = .ok (.enter 107 vs.toArray) W := r_call Try.func107 (by kernel_rfl) (by kernel_rfl) hv W
theorem ca108 (hv : xs.toList.map (ev n f) = vs) (W : World) : (execOp (ev n f) ⟨dst, .call ⟨.value (.func 108), xs, tys⟩, ty, pos, af, g⟩).run Try.prog W = .ok (.enter 108 vs.toArray) W := r_call Try.func108 (by kernel_rfl) (by kernel_rfl) hv W
theorem ca110 (hv : xs.toList.map (ev n f) = vs) (W : World) : (execOp (ev n f) ⟨dst, .call ⟨.value (.func 110), xs, tys⟩, ty, pos, af, g⟩).run Try.prog W = .ok (.enter 110 vs.toArray) W := r_call Try.func110 (by kernel_rfl) (by kernel_rfl) hv W
theorem ca111 (hv : xs.toList.map (ev n f) = vs) (W : World) : (execOp (ev n f) ⟨dst, .call ⟨.value (.func 111), xs, tys⟩, ty, pos, af, g⟩).run Try.prog W = .ok (.enter 111 vs.toArray) W := r_call Try.func111 (by kernel_rfl) (by kernel_rfl) hv W
theorem ca112 (hv : xs.toList.map (ev n f) = vs) (W : World) : (execOp (ev n f) ⟨dst, .call ⟨.value (.func 112), xs, tys⟩, ty, pos, af, g⟩).run Try.prog W = .ok (.enter 112 vs.toArray) W := r_call Try.func112 (by kernel_rfl) (by kernel_rfl) hv W
theorem ca114 (hv : xs.toList.map (ev n f) = vs) (W : World) : (execOp (ev n f) ⟨dst, .call ⟨.value (.func 114), xs, tys⟩, ty, pos, af, g⟩).run Try.prog W = .ok (.enter 114 vs.toArray) W := r_call Try.func114 (by kernel_rfl) (by kernel_rfl) hv W
theorem ca115 (hv : xs.toList.map (ev n f) = vs) (W : World) : (execOp (ev n f) ⟨dst, .call ⟨.value (.func 115), xs, tys⟩, ty, pos, af, g⟩).run Try.prog W = .ok (.enter 115 vs.toArray) W := r_call Try.func115 (by kernel_rfl) (by kernel_rfl) hv W
theorem ca116 (hv : xs.toList.map (ev n f) = vs) (W : World) : (execOp (ev n f) ⟨dst, .call ⟨.value (.func 116), xs, tys⟩, ty, pos, af, g⟩).run Try.prog W = .ok (.enter 116 vs.toArray) W := r_call Try.func116 (by kernel_rfl) (by kernel_rfl) hv W
theorem ca119 (hv : xs.toList.map (ev n f) = vs) (W : World) : (execOp (ev n f) ⟨dst, .call ⟨.value (.func 119), xs, tys⟩, ty, pos, af, g⟩).run Try.prog W = .ok (.enter 119 vs.toArray) W := r_call Try.func119 (by kernel_rfl) (by kernel_rfl) hv W
theorem ca122 (hv : xs.toList.map (ev n f) = vs) (W : World) : (execOp (ev n f) ⟨dst, .call ⟨.value (.func 122), xs, tys⟩, ty, pos, af, g⟩).run Try.prog W = .ok (.enter 122 vs.toArray) W := r_call Try.func122 (by kernel_rfl) (by kernel_rfl) hv W
end Go.Proofs.Ytmekhdclnhhhbaa
end

section
namespace Go.Proofs.Ytmekhdclnhhhbaa.Nv
/-- a device: its words as they last, as they are in the cache, as they were flushed (8 a line); which lines are dirty, which pending; steps done; the fuse -/
structure D where
 last : List Int
 cache : List Int
 fl : List Int
 dirty : List Bool
 pend : List Bool
 steps : Int
 fuse : Int
 armed : Bool
 dead : Bool
/-- all rows have whole lines -/
structure Ok (d : D) (m : Nat) : Prop where
 hl : d.last.length = 8 * m
 hc : d.cache.length = 8 * m
 hf : d.fl.length = 8 * m
 hd : d.dirty.length = m
 hp : d.pend.length = m
def part (l : List Int) (i : Nat) : List Int := (l.drop (8 * i)).take 8
def setPart (l : List Int) (i : Nat) (p : List Int) : List Int := l.take (8 * i) ++ p ++ l.drop (8 * i + 8)
def load (ws : List Int) (m : Nat) : D := ⟨ws, ws, List.replicate ws.length 0, List.replicate m false, List.replicate m false, 0, 0, false, false⟩
def stops (d : D) : Bool := d.dead || (d.armed && d.fuse == 0)
def stepped (d : D) : D := { d with fuse := IntKind.i64.wrap (d.fuse - 1), steps := IntKind.i64.wrap (d.steps + 1) }
def killed (d : D) : D := { d with dead := true }
def put (d : D) (a : Nat) (v : Int) : D := { d with cache := d.cache.set a v, dirty := d.dirty.set (a / 8) true }
def flushed (d : D) (i : Nat) : D := { d with pend := d.pend.set i true, fl := setPart d.fl i (part d.cache i) }
def same (a b : List Int) : Bool := decide (a = b)
def fenceLine (d : D) (i : Nat) : D :=
 if d.pend.getD i false = true then { d with last := setPart d.last i (part d.fl i), pend := d.pend.set i false, dirty := d.dirty.set i (!same (part d.fl i) (part d.cache i)) } else d
def fenceTo (d : D) : Nat → D
 | 0 => d
 | k + 1 => fenceLine (fenceTo d k) k
def store (d : D) (m : Nat) (a v : Int) : D × Int :=
 if 0 ≤ a ∧ a < 8 * (m : Int) then (if stops d = true then (killed d, 3) else (put (stepped d) a.toNat v, 0)) else (d, 2)
def flush (d : D) (m : Nat) (l : Int) : D × Int :=
 if 0 ≤ l ∧ l < (m : Int) then (if stops d = true then (killed d, 3) else (if d.dirty.getD l.toNat false = true then flushed (stepped d) l.toNat else stepped d, 0)) else (d, 2)
def fence (d : D) (m : Nat) : D × Int := if stops d = true then (killed d, 3) else (fenceTo (stepped d) m, 0)
def get (l : List Int) (a : Int) : Int := if 0 ≤ a ∧ a < (l.length : Int) then l.getD a.toNat 0 else 0
/-- the lines up to k that are dirty, rising -/
def dirtyTo (l : List Bool) : Nat → List Int
 | 0 => []
 | k + 1 => if l.getD k false = true then dirtyTo l k ++ [(k : Int)] else dirtyTo l k
def crashOne (d : D) (out : List Int) (line : Nat) (c : Int) : List Int :=
 if c % 3 = 1 then (if d.pend.getD line false = true then setPart out line (part d.fl line) else out)
 else if c % 3 = 2 then setPart out line (part d.cache line) else out
def crashTo (d : D) (ls : List Int) (cs : List Int) : Nat → List Int
 | 0 => d.last
 | k + 1 => if k < ls.length ∧ k < cs.length then crashOne d (crashTo d ls cs k) (ls.getD k 0).toNat (cs.getD k 0) else crashTo d ls cs k
/-- flushes from line i on, m of them; the first that falls ends it -/
def flushAll (d : D) (m : Nat) (i : Nat) : Nat → D × Int
 | 0 => (d, 0)
 | k + 1 => if (flush d m (i : Int)).2 = 0 then flushAll (flush d m (i : Int)).1 m (i + 1) k else flush d m (i : Int)
def persist (d : D) (m : Nat) (a n : Int) : D × Int :=
 if a < 0 ∨ n < 0 ∨ 8 * (m : Int) < a ∨ 8 * (m : Int) - a < n then (d, 2)
 else if n = 0 then fence d m
 else
  if (flushAll d m (a / 8).toNat (((a + n - 1) / 8).toNat + 1 - (a / 8).toNat)).2 = 0 then fence (flushAll d m (a / 8).toNat (((a + n - 1) / 8).toNat + 1 - (a / 8).toNat)).1 m
  else flushAll d m (a / 8).toNat (((a + n - 1) / 8).toNat + 1 - (a / 8).toNat)
theorem length_setPart {l p : List Int} {i : Nat} (h : 8 * i + 8 ≤ l.length) (hp : p.length = 8) : (setPart l i p).length = l.length := by simp [setPart]; omega
theorem length_part {l : List Int} {i : Nat} (h : 8 * i + 8 ≤ l.length) : (part l i).length = 8 := by simp [part]; omega
theorem Ok.killed {d : D} {m : Nat} (h : Ok d m) : Ok (killed d) m := ⟨h.hl, h.hc, h.hf, h.hd, h.hp⟩
theorem Ok.stepped {d : D} {m : Nat} (h : Ok d m) : Ok (stepped d) m := ⟨h.hl, h.hc, h.hf, h.hd, h.hp⟩
theorem Ok.put {d : D} {m : Nat} (h : Ok d m) (a : Nat) (v : Int) : Ok (put d a v) m := ⟨h.hl, by simp [Nv.put, h.hc], h.hf, by simp [Nv.put, h.hd], h.hp⟩
theorem Ok.flushed {d : D} {m : Nat} (h : Ok d m) {i : Nat} (hi : i < m) : Ok (flushed d i) m :=
 ⟨h.hl, h.hc, by simp only [Nv.flushed]; rw [length_setPart (by rw [h.hf]; omega) (length_part (by rw [h.hc]; omega)), h.hf], h.hd, by simp [Nv.flushed, h.hp]⟩
theorem Ok.fenceLine {d : D} {m : Nat} (h : Ok d m) {i : Nat} (hi : i < m) : Ok (fenceLine d i) m := by
 unfold Nv.fenceLine
 split
 ·exact ⟨by simp only; rw [length_setPart (by rw [h.hl]; omega) (length_part (by rw [h.hf]; omega)), h.hl], h.hc, h.hf, by simp [h.hd], by simp [h.hp]⟩
 ·exact h
theorem Ok.fenceTo {d : D} {m : Nat} (h : Ok d m) : ∀ k, k ≤ m → Ok (fenceTo d k) m
 | 0, _ => h
 | k + 1, hk => (Ok.fenceTo h k (by omega)).fenceLine (by omega)
theorem Ok.store {d : D} {m : Nat} (h : Ok d m) (a v : Int) : Ok (store d m a v).1 m := by
 unfold Nv.store; split
 ·split
  ·exact h.killed
  ·exact h.stepped.put _ _
 ·exact h
theorem Ok.flush {d : D} {m : Nat} (h : Ok d m) (l : Int) : Ok (flush d m l).1 m := by
 unfold Nv.flush; split
 ·split
  ·exact h.killed
  ·split
   ·exact h.stepped.flushed (by omega)
   ·exact h.stepped
 ·exact h
theorem Ok.fence {d : D} {m : Nat} (h : Ok d m) : Ok (fence d m).1 m := by
 unfold Nv.fence; split
 ·exact h.killed
 ·exact h.stepped.fenceTo m (Nat.le_refl _)
theorem Ok.flushAll {m : Nat} : ∀ (k i : Nat) (d : D), Ok d m → Ok (flushAll d m i k).1 m
 | 0, _, _, h => h
 | k + 1, i, d, h => by
  unfold Nv.flushAll; split
  ·exact Ok.flushAll k _ _ (h.flush _)
  ·exact h.flush _
theorem Ok.persist {d : D} {m : Nat} (h : Ok d m) (a n : Int) : Ok (persist d m a n).1 m := by
 unfold Nv.persist; split
 ·exact h
 ·split
  ·exact h.fence
  ·split
   ·exact (Ok.flushAll _ _ _ h).fence
   ·exact Ok.flushAll _ _ _ h
theorem crashTo_succ (d : D) (ls cs : List Int) (k : Nat) : crashTo d ls cs (k + 1) = if k < ls.length ∧ k < cs.length then crashOne d (crashTo d ls cs k) (ls.getD k 0).toNat (cs.getD k 0) else crashTo d ls cs k := rfl
theorem crashTo_stop (d : D) (ls cs : List Int) (j : Nat) (h : ls.length ≤ j ∨ cs.length ≤ j) : ∀ q, crashTo d ls cs (j + q) = crashTo d ls cs j
 | 0 => rfl
 | q + 1 => by rw [← Nat.add_assoc, crashTo, if_neg (by omega)]; exact crashTo_stop d ls cs j h q
theorem dirtyTo_mem (l : List Bool) : ∀ (k : Nat) (j : Nat) (z : Int), (dirtyTo l k)[j]? = some z → ∃ i : Nat, z = (i : Int) ∧ i < k ∧ l.getD i false = true
 | 0, j, z, h => by simp [dirtyTo] at h
 | k + 1, j, z, h => by
  unfold dirtyTo at h
  split at h
  ·rename_i hk
   rw [List.getElem?_append] at h
   split at h
   ·obtain ⟨i, e, hi, hd⟩ := dirtyTo_mem l k j z h
    exact ⟨i, e, by omega, hd⟩
   ·rw [List.getElem?_singleton] at h
    split at h
    ·injection h with h; exact ⟨k, h.symm, by omega, hk⟩
    ·cases h
  ·obtain ⟨i, e, hi, hd⟩ := dirtyTo_mem l k j z h
   exact ⟨i, e, by omega, hd⟩
theorem length_crashOne {d : D} {m : Nat} (ho : Ok d m) {out : List Int} (h : out.length = 8 * m) {i : Nat} (hi : i < m) (c : Int) : (crashOne d out i c).length = 8 * m := by
 unfold crashOne
 have h1 := ho.hf; have h2 := ho.hc
 split
 ·split
  ·rw [length_setPart (by omega) (length_part (by omega)), h]
  ·exact h
 ·split
  ·rw [length_setPart (by omega) (length_part (by omega)), h]
  ·exact h
theorem same_comm (a b : List Int) : same a b = same b a := by unfold same; rw [Bool.eq_iff_iff]; simp [eq_comm]
theorem fenceLine_same (d : D) (i : Nat) : (fenceLine d i).fl = d.fl ∧ (fenceLine d i).cache = d.cache ∧ (fenceLine d i).steps = d.steps ∧ (fenceLine d i).fuse = d.fuse ∧ (fenceLine d i).armed = d.armed ∧ (fenceLine d i).dead = d.dead := by
 unfold fenceLine; split <;> simp
theorem fenceTo_same (d : D) : ∀ k, (fenceTo d k).fl = d.fl ∧ (fenceTo d k).cache = d.cache ∧ (fenceTo d k).steps = d.steps ∧ (fenceTo d k).fuse = d.fuse ∧ (fenceTo d k).armed = d.armed ∧ (fenceTo d k).dead = d.dead
 | 0 => by simp [fenceTo]
 | k + 1 => by
  obtain ⟨h1, h2, h3, h4, h5, h6⟩ := fenceLine_same (fenceTo d k) k
  obtain ⟨g1, g2, g3, g4, g5, g6⟩ := fenceTo_same d k
  exact ⟨h1.trans g1, h2.trans g2, h3.trans g3, h4.trans g4, h5.trans g5, h6.trans g6⟩
end Go.Proofs.Ytmekhdclnhhhbaa.Nv
end

section
namespace Go.Proofs.Ytmekhdclnhhhbaa.Nv
theorem getD_set {α : Type} (l : List α) (i j : Nat) (v z : α) (hi : i < l.length) : (l.set i v).getD j z = if i = j then v else l.getD j z := by
 simp only [List.getD, List.getElem?_set]
 split
 ·subst_vars; simp [hi]
 ·rfl
theorem getD_part (c : List Int) (i r : Nat) (hr : r < 8) : (part c i).getD r 0 = c.getD (8 * i + r) 0 := by
 unfold part
 simp only [List.getD]
 rw [List.getElem?_take_of_lt hr, List.getElem?_drop]
theorem getD_setPart (l c : List Int) (i x : Nat) (hl : 8 * i + 8 ≤ l.length) (hc : 8 * i + 8 ≤ c.length) : (setPart l i (part c i)).getD x 0 = if x / 8 = i then c.getD x 0 else l.getD x 0 := by
 have hp : (part c i).length = 8 := length_part hc
 unfold setPart
 by_cases h1 : x < 8 * i
 ·rw [if_neg (by omega)]
  simp only [List.getD]
  rw [List.append_assoc, List.getElem?_append_left (by simp; omega), List.getElem?_take_of_lt h1]
 ·by_cases h2 : x < 8 * i + 8
  ·rw [if_pos (by omega)]
   have := getD_part c i (x - 8 * i) (by omega)
   rw [show 8 * i + (x - 8 * i) = x by omega] at this
   rw [← this]
   simp only [List.getD]
   rw [List.getElem?_append_left (by simp [hp]; omega), List.getElem?_append_right (by simp; omega)]
   simp only [List.length_take]
   rw [show min (8 * i) l.length = 8 * i by omega]
  ·rw [if_neg (by omega)]
   simp only [List.getD]
   rw [List.getElem?_append_right (by simp [hp]; omega), List.getElem?_drop]
   simp only [List.length_append, List.length_take, hp]
   rw [show 8 * i + 8 + (x - (min (8 * i) l.length + 8)) = x by omega]
theorem of_same {a b : List Int} {i x : Nat} (h : same (part a i) (part b i) = true) (hx : x / 8 = i) : a.getD x 0 = b.getD x 0 := by
 have h' : part a i = part b i := of_decide_eq_true h
 have : (part a i).getD (x - 8 * i) 0 = (part b i).getD (x - 8 * i) 0 := by rw [h']
 rw [getD_part _ _ _ (by omega), getD_part _ _ _ (by omega), show 8 * i + (x - 8 * i) = x by omega] at this
 exact this
/-- a line that is not dirty lasts as it is; what is pending is dirty -/
structure Inv (d : D) (m : Nat) : Prop where
 ok : Ok d m
 cl : ∀ x, x < 8 * m → d.dirty.getD (x / 8) false = false → d.last.getD x 0 = d.cache.getD x 0
 pd : ∀ i, d.pend.getD i false = true → d.dirty.getD i false = true
theorem Inv.load (ws : List Int) (m : Nat) (h : ws.length = 8 * m) : Inv (load ws m) m :=
 ⟨⟨h, h, by simp [Nv.load, h], by simp [Nv.load], by simp [Nv.load]⟩, fun _ _ _ => rfl, fun i hi => by
  have : (List.replicate m false).getD i false = true := hi
  simp only [List.getD, List.getElem?_replicate] at this
  split at this <;> simp at this⟩
theorem Inv.killed {d : D} {m : Nat} (h : Inv d m) : Inv (killed d) m := ⟨h.ok.killed, h.cl, h.pd⟩
theorem Inv.stepped {d : D} {m : Nat} (h : Inv d m) : Inv (stepped d) m := ⟨h.ok.stepped, h.cl, h.pd⟩
theorem Inv.put {d : D} {m : Nat} (h : Inv d m) {a : Nat} (ha : a < 8 * m) (v : Int) : Inv (put d a v) m := by
 have hd := h.ok.hd
 have hc := h.ok.hc
 refine ⟨h.ok.put a v, fun x hx hdx => ?_, fun i hi => ?_⟩
 ·have e : (d.dirty.set (a / 8) true).getD (x / 8) false = false := hdx
  rw [getD_set _ _ _ _ _ (by omega)] at e
  split at e
  ·cases e
  ·show d.last.getD x 0 = (d.cache.set a v).getD x 0
   rw [getD_set _ _ _ _ _ (by omega), if_neg (by rintro rfl; exact absurd rfl ‹_›)]
   exact h.cl x hx e
 ·show (d.dirty.set (a / 8) true).getD i false = true
  rw [getD_set _ _ _ _ _ (by omega)]
  split
  ·rfl
  ·exact h.pd i hi
theorem Inv.flushed {d : D} {m : Nat} (h : Inv d m) {i : Nat} (hi : i < m) (hd : d.dirty.getD i false = true) : Inv (flushed d i) m := by
 have hp := h.ok.hp
 refine ⟨h.ok.flushed hi, h.cl, fun j hj => ?_⟩
 have e : (d.pend.set i true).getD j false = true := hj
 rw [getD_set _ _ _ _ _ (by omega)] at e
 split at e
 ·subst_vars; exact hd
 ·exact h.pd j e
theorem Inv.fenceLine {d : D} {m : Nat} (h : Inv d m) {i : Nat} (hi : i < m) : Inv (fenceLine d i) m := by
 have hd := h.ok.hd
 have hp := h.ok.hp
 have hl := h.ok.hl
 have hf := h.ok.hf
 have ho := h.ok.fenceLine hi
 unfold Nv.fenceLine at ho ⊢
 split
 ·rename_i hpi
  rw [if_pos hpi] at ho
  refine ⟨ho, fun x hx hdx => ?_, fun j hj => ?_⟩
  ·have e : (d.dirty.set i (!same (part d.fl i) (part d.cache i))).getD (x / 8) false = false := hdx
   show (setPart d.last i (part d.fl i)).getD x 0 = d.cache.getD x 0
   rw [getD_setPart _ _ _ _ (by omega) (by omega)]
   rw [getD_set _ _ _ _ _ (by omega)] at e
   by_cases hxi : x / 8 = i
   ·rw [if_pos hxi.symm] at e
    rw [if_pos hxi]
    exact of_same (by simpa using e) hxi
   ·rw [if_neg (fun h => hxi h.symm)] at e
    rw [if_neg hxi]
    exact h.cl x hx e
  ·have e : (d.pend.set i false).getD j false = true := hj
   rw [getD_set _ _ _ _ _ (by omega)] at e
   split at e
   ·cases e
   ·show (d.dirty.set i _).getD j false = true
    rw [getD_set _ _ _ _ _ (by omega), if_neg ‹_›]
    exact h.pd j e
 ·exact h
theorem Inv.fenceTo {d : D} {m : Nat} (h : Inv d m) : ∀ k, k ≤ m → Inv (fenceTo d k) m
 | 0, _ => h
 | k + 1, hk => (Inv.fenceTo h k (by omega)).fenceLine (by omega)
theorem Inv.store {d : D} {m : Nat} (h : Inv d m) (a v : Int) : Inv (store d m a v).1 m := by
 unfold Nv.store; split
 ·split
  ·exact h.killed
  ·exact h.stepped.put (by omega) _
 ·exact h
theorem Inv.flush {d : D} {m : Nat} (h : Inv d m) (l : Int) : Inv (flush d m l).1 m := by
 unfold Nv.flush; split
 ·split
  ·exact h.killed
  ·show Inv (if _ then _ else _) m
   split
   ·exact h.stepped.flushed (by omega) ‹_›
   ·exact h.stepped
 ·exact h
theorem Inv.fence {d : D} {m : Nat} (h : Inv d m) : Inv (fence d m).1 m := by
 unfold Nv.fence; split
 ·exact h.killed
 ·exact h.stepped.fenceTo m (Nat.le_refl _)
theorem Inv.flushAll {m : Nat} : ∀ (k i : Nat) (d : D), Inv d m → Inv (flushAll d m i k).1 m
 | 0, _, _, h => h
 | k + 1, i, d, h => by
  unfold Nv.flushAll; split
  ·exact Inv.flushAll k _ _ (h.flush _)
  ·exact h.flush _
theorem Inv.persist {d : D} {m : Nat} (h : Inv d m) (a n : Int) : Inv (persist d m a n).1 m := by
 unfold Nv.persist; split
 ·exact h
 ·split
  ·exact h.fence
  ·split
   ·exact (Inv.flushAll _ _ _ h).fence
   ·exact Inv.flushAll _ _ _ h
/-- flushed, if dirty -/
def Fd (d : D) (j : Nat) : Prop := d.dirty.getD j false = true → d.pend.getD j false = true ∧ part d.fl j = part d.cache j
theorem part_setPart (l p : List Int) (i : Nat) (hl : 8 * i + 8 ≤ l.length) (hp : p.length = 8) : part (setPart l i p) i = p := by
 unfold part setPart
 rw [List.append_assoc, List.drop_append_of_le_length (by simp; omega), List.drop_of_length_le (by simp; omega), List.nil_append, List.take_append_of_le_length (by omega), List.take_of_length_le (by omega)]
theorem part_setPart_ne (l p : List Int) (i j : Nat) (hl : 8 * i + 8 ≤ l.length) (hp : p.length = 8) (hij : i ≠ j) : part (setPart l i p) j = part l j := by
 unfold part setPart
 apply List.ext_getElem?
 intro r
 by_cases hr : r < 8
 ·rw [List.getElem?_take_of_lt hr, List.getElem?_take_of_lt hr, List.getElem?_drop, List.getElem?_drop]
  by_cases h : j < i
  ·rw [List.append_assoc, List.getElem?_append_left (by simp; omega), List.getElem?_take_of_lt (by omega)]
  ·rw [List.getElem?_append_right (by simp; omega), List.getElem?_drop]
   simp only [List.length_append, List.length_take, hp]
   congr 1; omega
 ·rw [List.getElem?_eq_none (by simp; omega), List.getElem?_eq_none (by simp; omega)]
theorem Fd.flush_other {d : D} {m : Nat} (ho : Ok d m) {j : Nat} {l : Int} (hne : l ≠ (j : Int)) (h : Fd d j) : Fd (flush d m l).1 j := by
 have hp := ho.hp
 have hf := ho.hf
 have hc := ho.hc
 unfold Nv.flush; split
 ·split
  ·exact h
  ·show Fd (if _ then _ else _) j
   split
   ·intro hdj
    obtain ⟨h1, h2⟩ := h hdj
    refine ⟨?_, ?_⟩
    ·show (d.pend.set l.toNat true).getD j false = true
     rw [getD_set _ _ _ _ _ (by omega), if_neg (by omega)]; exact h1
    ·show part (setPart d.fl l.toNat (part d.cache l.toNat)) j = part d.cache j
     rw [part_setPart_ne _ _ _ _ (by omega) (length_part (by omega)) (by omega)]; exact h2
   ·exact h
 ·exact h
theorem Fd.flush_self {d : D} {m : Nat} (ho : Ok d m) {j : Nat} (hz : (flush d m (j : Int)).2 = 0) : Fd (flush d m (j : Int)).1 j := by
 have hp := ho.hp
 have hf := ho.hf
 have hc := ho.hc
 unfold Nv.flush at hz ⊢
 split
 ·rename_i hr
  rw [if_pos hr] at hz
  split
  ·rw [if_pos ‹_›] at hz; cases hz
  ·show Fd (if _ then _ else _) j
   split
   ·intro _
    refine ⟨?_, ?_⟩
    ·show (d.pend.set (j : Int).toNat true).getD j false = true
     rw [getD_set _ _ _ _ _ (by omega), if_pos (by omega)]
    ·show part (setPart d.fl (j : Int).toNat (part d.cache (j : Int).toNat)) j = part d.cache j
     rw [show (j : Int).toNat = j by omega, part_setPart _ _ _ (by omega) (length_part (by omega))]
   ·intro hdj; exact absurd hdj ‹_›
 ·rw [if_neg ‹_›] at hz; cases hz
theorem Fd.flushAll_other {m : Nat} : ∀ (k i : Nat) (d : D), Ok d m → ∀ j, j < i → Fd d j → Fd (flushAll d m i k).1 j
 | 0, _, _, _, _, _, h => h
 | k + 1, i, d, ho, j, hj, h => by
  unfold Nv.flushAll; split
  ·exact Fd.flushAll_other k _ _ (ho.flush _) j (by omega) (h.flush_other ho (by omega))
  ·exact h.flush_other ho (by omega)
theorem Fd.flushAll {m : Nat} : ∀ (k i : Nat) (d : D), Ok d m → (flushAll d m i k).2 = 0 → ∀ j, i ≤ j → j < i + k → Fd (flushAll d m i k).1 j
 | 0, _, _, _, _, _, _, _ => by omega
 | k + 1, i, d, ho, hz, j, h1, h2 => by
  unfold Nv.flushAll at hz ⊢
  split
  ·rename_i h0
   rw [if_pos h0] at hz
   by_cases hij : j = i
   ·subst hij
    exact Fd.flushAll_other k _ _ (ho.flush _) j (by omega) (Fd.flush_self ho h0)
   ·exact Fd.flushAll k _ _ (ho.flush _) hz j (by omega) (by omega)
  ·rename_i h0
   rw [if_neg h0] at hz
   exact absurd hz h0
theorem fenceLine_dirty_ne {d : D} {m : Nat} (ho : Ok d m) {i j : Nat} (hi : i < m) (hij : i ≠ j) : (fenceLine d i).dirty.getD j false = d.dirty.getD j false := by
 have hd := ho.hd
 unfold Nv.fenceLine; split
 ·show (d.dirty.set i _).getD j false = _
  rw [getD_set _ _ _ _ _ (by omega), if_neg hij]
 ·rfl
theorem Fd.fenceLine_ne {d : D} {m : Nat} (ho : Ok d m) {i j : Nat} (hi : i < m) (hij : i ≠ j) (h : Fd d j) : Fd (fenceLine d i) j := by
 have hd := ho.hd
 have hp := ho.hp
 unfold Nv.fenceLine; split
 ·intro hdj
  have e : (d.dirty.set i (!same (part d.fl i) (part d.cache i))).getD j false = true := hdj
  rw [getD_set _ _ _ _ _ (by omega), if_neg hij] at e
  obtain ⟨h1, h2⟩ := h e
  refine ⟨?_, h2⟩
  show (d.pend.set i false).getD j false = true
  rw [getD_set _ _ _ _ _ (by omega), if_neg hij]; exact h1
 ·exact h
theorem fenceLine_clean {d : D} {m : Nat} (hI : Inv d m) {j : Nat} (hj : j < m) (h : Fd d j) : (fenceLine d j).dirty.getD j false = false := by
 have hd := hI.ok.hd
 unfold Nv.fenceLine; split
 ·rename_i hpj
  show (d.dirty.set j _).getD j false = _
  rw [getD_set _ _ _ _ _ (by omega), if_pos rfl]
  rw [(h (hI.pd j hpj)).2]; simp [same]
 ·rename_i hpj
  cases hdj : d.dirty.getD j false
  ·rfl
  ·exact absurd (h hdj).1 hpj
theorem fenceTo_dirty {d : D} {m : Nat} (hI : Inv d m) : ∀ (k j : Nat), k ≤ m → j < m → Fd d j → (j < k → (fenceTo d k).dirty.getD j false = false) ∧ (k ≤ j → Fd (fenceTo d k) j)
 | 0, j, _, _, h => ⟨fun h0 => by omega, fun _ => h⟩
 | k + 1, j, hk, hj, h => by
  obtain ⟨h1, h2⟩ := fenceTo_dirty hI k j (by omega) hj h
  have hIk := hI.fenceTo k (by omega)
  refine ⟨fun hjk => ?_, fun hjk => Fd.fenceLine_ne hIk.ok (by omega) (by omega) (h2 (by omega))⟩
  by_cases e : j = k
  ·subst e; exact fenceLine_clean hIk (by omega) (h2 (Nat.le_refl _))
  ·show (fenceLine (fenceTo d k) k).dirty.getD j false = false
   rw [fenceLine_dirty_ne hIk.ok (by omega) (by omega)]; exact h1 (by omega)
/-- what was persisted is not dirty -/
theorem persist_clean {d : D} {m : Nat} (hI : Inv d m) {a n : Int} (hz : (persist d m a n).2 = 0) : ∀ x : Nat, a ≤ x → (x : Int) < a + n → x < 8 * m ∧ (persist d m a n).1.dirty.getD (x / 8) false = false := by
 intro x hx1 hx2
 unfold Nv.persist at hz ⊢
 split
 ·rw [if_pos ‹_›] at hz; cases hz
 ·rename_i hr
  rw [if_neg hr] at hz
  split
  ·omega
  ·rename_i hn
   rw [if_neg hn] at hz
   refine ⟨by omega, ?_⟩
   split
   ·rename_i h0
    rw [if_pos h0] at hz
    have hI2 := Inv.flushAll (((a + n - 1) / 8).toNat + 1 - (a / 8).toNat) (a / 8).toNat d hI
    have hF := Fd.flushAll (((a + n - 1) / 8).toNat + 1 - (a / 8).toNat) (a / 8).toNat d hI.ok h0 (x / 8) (by omega) (by omega)
    generalize (Nv.flushAll d m (a / 8).toNat (((a + n - 1) / 8).toNat + 1 - (a / 8).toNat)).1 = d2 at *
    unfold Nv.fence at hz ⊢
    split
    ·rw [if_pos ‹_›] at hz; cases hz
    ·exact (fenceTo_dirty hI2.stepped m (x / 8) (Nat.le_refl _) (by omega) hF).1 (by omega)
   ·rename_i h0
    rw [if_neg h0] at hz; exact absurd hz h0
theorem crashTo_len {d : D} {m : Nat} (ho : Ok d m) (cs : List Int) : ∀ k, (crashTo d (dirtyTo d.dirty m) cs k).length = 8 * m
 | 0 => ho.hl
 | k + 1 => by
  have ih := crashTo_len ho cs k
  rw [crashTo_succ]
  split
  ·rename_i hk
   obtain ⟨i, e, hi, _⟩ := dirtyTo_mem d.dirty m k _ (List.getElem?_eq_getElem hk.1)
   have e2 : ((dirtyTo d.dirty m).getD k 0).toNat = i := by
    simp only [List.getD, List.getElem?_eq_getElem hk.1, Option.getD_some]; omega
   rw [e2]
   unfold Nv.crashOne
   have hf := ho.hf
   have hc := ho.hc
   split
   ·split
    ·rw [length_setPart (by omega) (length_part (by omega))]; exact ih
    ·exact ih
   ·split
    ·rw [length_setPart (by omega) (length_part (by omega))]; exact ih
    ·exact ih
  ·exact ih
theorem crashTo_clean {d : D} {m : Nat} (ho : Ok d m) (cs : List Int) (x : Nat) (hx : d.dirty.getD (x / 8) false = false) : ∀ k, (crashTo d (dirtyTo d.dirty m) cs k).getD x 0 = d.last.getD x 0
 | 0 => rfl
 | k + 1 => by
  have ih := crashTo_clean ho cs x hx k
  have hl := crashTo_len ho cs k
  have hf := ho.hf
  have hc := ho.hc
  rw [crashTo_succ]
  split
  ·rename_i hk
   obtain ⟨i, e, hi, hdi⟩ := dirtyTo_mem d.dirty m k _ (List.getElem?_eq_getElem hk.1)
   have e2 : ((dirtyTo d.dirty m).getD k 0).toNat = i := by
    simp only [List.getD, List.getElem?_eq_getElem hk.1, Option.getD_some]; omega
   rw [e2]
   have hne : ¬ x / 8 = i := fun h => by rw [h, hdi] at hx; cases hx
   unfold Nv.crashOne
   split
   ·split
    ·rw [getD_setPart _ _ _ _ (by omega) (by omega), if_neg hne]; exact ih
    ·exact ih
   ·split
    ·rw [getD_setPart _ _ _ _ (by omega) (by omega), if_neg hne]; exact ih
    ·exact ih
  ·exact ih
end Go.Proofs.Ytmekhdclnhhhbaa.Nv
end

section
namespace Go.Proofs.Ytmekhdclnhhhbaa.Nv
def order : List Nat := [1, 2, 3, 4, 5, 6, 7, 9, 10, 11, 12, 13, 14, 15, 0, 8]
/-- a slot is written: k of its words -/
def wrTo (d : D) (m a : Nat) (ws : List Int) : Nat → D × Int
 | 0 => (d, 0)
 | k + 1 => if (wrTo d m a ws k).2 = 0 then store (wrTo d m a ws k).1 m ((a : Int) + (order.getD k 0 : Nat)) (ws.getD (order.getD k 0) 0) else wrTo d m a ws k
def wr (d : D) (m a : Nat) (ws : List Int) : D × Int := if (wrTo d m a ws 16).2 = 0 then persist (wrTo d m a ws 16).1 m a 16 else wrTo d m a ws 16
theorem wrTo_stuck (d : D) (m a : Nat) (ws : List Int) (j : Nat) (h : (wrTo d m a ws j).2 ≠ 0) : ∀ q, wrTo d m a ws (j + q) = wrTo d m a ws j
 | 0 => rfl
 | q + 1 => by
  have ih := wrTo_stuck d m a ws j h q
  rw [← Nat.add_assoc, wrTo, if_neg (by rw [ih]; exact h), ih]
theorem wr_stuck (d : D) (m a : Nat) (ws : List Int) (j : Nat) (hj : j ≤ 16) (h : (wrTo d m a ws j).2 ≠ 0) : wr d m a ws = wrTo d m a ws j := by
 have := wrTo_stuck d m a ws j h (16 - j)
 rw [show j + (16 - j) = 16 by omega] at this
 unfold wr
 rw [this, if_neg h]
theorem wr_end (d : D) (m a : Nat) (ws : List Int) (h : (wrTo d m a ws 16).2 = 0) : wr d m a ws = persist (wrTo d m a ws 16).1 m a 16 := by
 unfold wr; rw [if_pos h]
theorem wrTo_succ (d : D) (m a : Nat) (ws : List Int) (k : Nat) (h : (wrTo d m a ws k).2 = 0) : wrTo d m a ws (k + 1) = store (wrTo d m a ws k).1 m ((a : Int) + (order.getD k 0 : Nat)) (ws.getD (order.getD k 0) 0) := by
 rw [wrTo, if_pos h]
theorem Inv.wrTo {d : D} {m : Nat} (h : Inv d m) (a : Nat) (ws : List Int) : ∀ k, Inv (wrTo d m a ws k).1 m
 | 0 => h
 | k + 1 => by
  have ih := Inv.wrTo h a ws k
  rw [Nv.wrTo]
  split
  ·exact ih.store _ _
  ·exact ih
theorem Inv.wr {d : D} {m : Nat} (h : Inv d m) (a : Nat) (ws : List Int) : Inv (wr d m a ws).1 m := by
 unfold Nv.wr
 split
 ·exact (h.wrTo a ws 16).persist _ _
 ·exact h.wrTo a ws 16
/-- how many words are stored ahead of the k-th -/
def cnt (k : Nat) : Nat := k - (k + 7) / 8
theorem cnt_at : ∀ k, k < 16 → k % 8 ≠ 0 → order.getD (cnt k) 0 = k ∧ cnt (k + 1) = cnt k + 1 := by decide
theorem cnt_skip : ∀ k, k < 16 → k % 8 = 0 → cnt (k + 1) = cnt k := by decide
/-- a slot is wiped -/
def wiTo (d : D) (m a : Nat) : Nat → D × Int
 | 0 => (d, 0)
 | k + 1 => if (wiTo d m a k).2 = 0 then store (wiTo d m a k).1 m ((a : Int) + 8 * (k : Int)) 0 else wiTo d m a k
def wi (d : D) (m a : Nat) (E : Int) : D × Int :=
 if get d.cache a ≤ E ∧ get d.cache ((a : Int) + 8) ≤ E then (d, 0)
 else if (wiTo d m a 2).2 = 0 then persist (wiTo d m a 2).1 m a 16 else wiTo d m a 2
theorem wiTo_stuck (d : D) (m a : Nat) (j : Nat) (h : (wiTo d m a j).2 ≠ 0) : ∀ q, wiTo d m a (j + q) = wiTo d m a j
 | 0 => rfl
 | q + 1 => by
  have ih := wiTo_stuck d m a j h q
  rw [← Nat.add_assoc, wiTo, if_neg (by rw [ih]; exact h), ih]
theorem wiTo_succ (d : D) (m a : Nat) (k : Nat) (h : (wiTo d m a k).2 = 0) : wiTo d m a (k + 1) = store (wiTo d m a k).1 m ((a : Int) + 8 * (k : Int)) 0 := by
 rw [wiTo, if_pos h]
theorem Inv.wiTo {d : D} {m : Nat} (h : Inv d m) (a : Nat) : ∀ k, Inv (wiTo d m a k).1 m
 | 0 => h
 | k + 1 => by
  have ih := Inv.wiTo h a k
  rw [Nv.wiTo]
  split
  ·exact ih.store _ _
  ·exact ih
theorem Inv.wi {d : D} {m : Nat} (h : Inv d m) (a : Nat) (E : Int) : Inv (wi d m a E).1 m := by
 unfold Nv.wi
 split
 ·exact h
 split
 ·exact (h.wiTo a 2).persist _ _
 ·exact h.wiTo a 2
theorem wi_no (d : D) (m a : Nat) (E : Int) (h : get d.cache a ≤ E ∧ get d.cache ((a : Int) + 8) ≤ E) : wi d m a E = (d, 0) := by unfold wi; rw [if_pos h]
theorem wi_stuck (d : D) (m a : Nat) (E : Int) (h : ¬ (get d.cache a ≤ E ∧ get d.cache ((a : Int) + 8) ≤ E)) (j : Nat) (hj : j ≤ 2) (hc : (wiTo d m a j).2 ≠ 0) : wi d m a E = wiTo d m a j := by
 have := wiTo_stuck d m a j hc (2 - j)
 rw [show j + (2 - j) = 2 by omega] at this
 unfold wi
 rw [if_neg h, this, if_neg hc]
theorem wi_end (d : D) (m a : Nat) (E : Int) (h : ¬ (get d.cache a ≤ E ∧ get d.cache ((a : Int) + 8) ≤ E)) (hc : (wiTo d m a 2).2 = 0) : wi d m a E = persist (wiTo d m a 2).1 m a 16 := by
 unfold wi; rw [if_neg h, if_pos hc]
/-- a commit: the slot that is written -/
def cm (d : D) (m : Nat) (E : Int) (k : Nat) (ws : List Int) : D × Int :=
 if 1152921504606846976 ≤ E then (d, 26)
 else if (wi d m (64 + 64 * (1 - k)) E).2 = 0 then wr (wi d m (64 + 64 * (1 - k)) E).1 m (64 + 64 * (1 - k)) ws
 else wi d m (64 + 64 * (1 - k)) E
theorem Inv.cm {d : D} {m : Nat} (h : Inv d m) (E : Int) (k : Nat) (ws : List Int) : Inv (cm d m E k ws).1 m := by
 unfold Nv.cm
 split
 ·exact h
 split
 ·exact (h.wi _ E).wr _ _
 ·exact h.wi _ E
end Go.Proofs.Ytmekhdclnhhhbaa.Nv
end

section
namespace Go.Proofs.Ytmekhdclnhhhbaa.Nv
structure Live (d : D) : Prop where
 ar : d.armed = false
 de : d.dead = false
theorem Live.stops {d : D} (h : Live d) : stops d = false := by unfold Nv.stops; rw [h.ar, h.de]; rfl
theorem Live.stepped {d : D} (h : Live d) : Live (stepped d) := ⟨h.ar, h.de⟩
theorem Live.put {d : D} (h : Live d) (a : Nat) (v : Int) : Live (put d a v) := ⟨h.ar, h.de⟩
theorem Live.flushed {d : D} (h : Live d) (i : Nat) : Live (flushed d i) := ⟨h.ar, h.de⟩
theorem Live.load (ws : List Int) (m : Nat) : Live (load ws m) := ⟨rfl, rfl⟩
theorem store_live {d : D} {m : Nat} (h : Live d) {a : Nat} (ha : a < 8 * m) (v : Int) : store d m a v = (Nv.put (Nv.stepped d) a v, 0) := by
 unfold Nv.store
 rw [if_pos (by omega), h.stops, if_neg (by simp), Int.toNat_natCast]
theorem flush_live {d : D} {m : Nat} (h : Live d) {l : Nat} (hl : l < m) : (flush d m l).2 = 0 ∧ Live (flush d m l).1 ∧ (flush d m l).1.cache = d.cache := by
 unfold Nv.flush
 rw [if_pos (by omega), h.stops, if_neg (by simp)]
 refine ⟨rfl, ?_⟩
 show Live (if _ then _ else _) ∧ _
 split
 ·exact ⟨h.stepped.flushed _, rfl⟩
 ·exact ⟨h.stepped, rfl⟩
theorem flushAll_live {m : Nat} : ∀ (k i : Nat) (d : D), Live d → i + k ≤ m → (flushAll d m i k).2 = 0 ∧ Live (flushAll d m i k).1 ∧ (flushAll d m i k).1.cache = d.cache
 | 0, _, _, h, _ => ⟨rfl, h, rfl⟩
 | k + 1, i, d, h, hk => by
  obtain ⟨h1, h2, h3⟩ := flush_live h (l := i) (m := m) (by omega)
  unfold Nv.flushAll
  rw [if_pos h1]
  obtain ⟨a, b, c⟩ := flushAll_live (m := m) k (i + 1) _ h2 (by omega)
  exact ⟨a, b, c.trans h3⟩
theorem fence_live {d : D} {m : Nat} (h : Live d) : (fence d m).2 = 0 ∧ Live (fence d m).1 ∧ (fence d m).1.cache = d.cache := by
 unfold Nv.fence
 rw [h.stops, if_neg (by simp)]
 obtain ⟨_, h2, _, _, h5, h6⟩ := fenceTo_same (Nv.stepped d) m
 exact ⟨rfl, ⟨h5.trans h.ar, h6.trans h.de⟩, h2⟩
theorem persist_live {d : D} {m : Nat} (h : Live d) {a n : Nat} (hn : a + n ≤ 8 * m) : (persist d m a n).2 = 0 ∧ Live (persist d m a n).1 ∧ (persist d m a n).1.cache = d.cache := by
 unfold Nv.persist
 rw [if_neg (by omega)]
 split
 ·exact fence_live h
 ·obtain ⟨h1, h2, h3⟩ := flushAll_live (m := m) (((((a : Int) + n - 1) / 8).toNat + 1 - ((a : Int) / 8).toNat)) ((a : Int) / 8).toNat d h (by omega)
  rw [if_pos h1]
  obtain ⟨a1, a2, a3⟩ := fence_live (m := m) h2
  exact ⟨a1, a2, a3.trans h3⟩
end Go.Proofs.Ytmekhdclnhhhbaa.Nv
end

section
namespace Go.Proofs.Ytmekhdclnhhhbaa.Bt
open Go

/-! powers, masks -/
theorem pow_int (k : Nat) : ((2 ^ k : Nat) : Int) = (2 : Int) ^ k := by simp
/-- so many ones at the right -/
def maskN (k : Int) : Nat := 2 ^ (min k.toNat 64) - 1
/-! a number by its bits -/
def ofBits (f : Nat → Bool) : Nat → Nat
 | 0 => 0
 | m + 1 => ofBits f m + (if f m then 2 ^ m else 0)
/-! fields -/
def getN (x : Nat) (a : Int) (k : Int) : Nat := if 0 ≤ a ∧ a < 64 then (x >>> a.toNat) &&& maskN k else 0
def get (x a k : Int) : Int := (getN x.toNat a k : Nat)
def putN (x : Nat) (a k : Int) (n : Nat) : Nat :=
 if 0 ≤ a ∧ a < 64 then ofBits (fun i => if a.toNat ≤ i ∧ i < a.toNat + k.toNat then n.testBit (i - a.toNat) else x.testBit i) 64 else x
def put (x a k n : Int) : Int := (putN x.toNat a k n.toNat : Nat)
/-! the reference's functions: plain -/
def bit (x i : Int) : Bool := x.toNat.testBit i.toNat
def hf (X j : Nat) : Int := ((X / 2 ^ j : Nat) : Int)
end Go.Proofs.Ytmekhdclnhhhbaa.Bt
end

section
namespace Go.Proofs.Ytmekhdclnhhhbaa.Cr
open Go Go.RowKit
def step (s : Nat) : Nat := if s % 2 = 1 then (s / 2) ^^^ 3988292384 else s / 2
def steps : Nat → Nat → Nat
 | 0, s => s
 | n + 1, s => steps n (step s)
theorem div_xor (a b k : Nat) : (a ^^^ b) / 2 ^ k = a / 2 ^ k ^^^ b / 2 ^ k := by
 rw [← Nat.shiftRight_eq_div_pow, ← Nat.shiftRight_eq_div_pow, ← Nat.shiftRight_eq_div_pow, Nat.shiftRight_xor_distrib]
theorem mod2_bits : ∀ a < 2, ∀ b < 2, (a ^^^ b) % 2 = (a + b) % 2 := by decide
theorem mod2_xor (a b : Nat) : (a ^^^ b) % 2 = (a % 2 + b % 2) % 2 := by
 have e : (a ^^^ b) % 2 ^ 1 = a % 2 ^ 1 ^^^ b % 2 ^ 1 := by
  apply Nat.eq_of_testBit_eq
  intro i
  simp only [Nat.testBit_mod_two_pow, Nat.testBit_xor]
  by_cases h : i < 1 <;> simp [h]
 have h2 := mod2_bits (a % 2) (by omega) (b % 2) (by omega)
 rw [← h2, show (2 : Nat) = 2 ^ 1 from rfl, ← e, Nat.mod_mod]
theorem xor4 (a b c d : Nat) : (a ^^^ b) ^^^ (c ^^^ d) = (a ^^^ c) ^^^ (b ^^^ d) := by
 rw [Nat.xor_assoc, Nat.xor_assoc]; congr 1; rw [← Nat.xor_assoc, Nat.xor_comm b c, Nat.xor_assoc]
theorem step_xor (a b : Nat) : step (a ^^^ b) = step a ^^^ step b := by
 unfold step
 rw [mod2_xor, show (a ^^^ b) / 2 = a / 2 ^^^ b / 2 from div_xor a b 1]
 rcases Nat.mod_two_eq_zero_or_one a with ha | ha <;> rcases Nat.mod_two_eq_zero_or_one b with hb | hb <;> simp only [ha, hb] <;> simp
 ·rw [Nat.xor_assoc]
 ·rw [Nat.xor_assoc, Nat.xor_comm (b / 2), ← Nat.xor_assoc]
 ·rw [xor4, Nat.xor_self, Nat.xor_zero]
theorem steps_xor (n : Nat) : ∀ a b, steps n (a ^^^ b) = steps n a ^^^ steps n b := by
 induction n with
 | zero => intro a b; rfl
 | succ n ih => intro a b; rw [steps, step_xor, ih]; rfl
theorem steps_add (m n : Nat) : ∀ s, steps (m + n) s = steps n (steps m s) := by
 induction m with
 | zero => intro s; simp [steps]
 | succ m ih => intro s; rw [show m + 1 + n = (m + n) + 1 from by omega, steps, ih]; rfl
theorem steps_succ (n s : Nat) : steps (n + 1) s = step (steps n s) := by rw [steps_add n 1]; rfl
theorem step_even (q : Nat) : step (2 * q) = q := by unfold step; rw [if_neg (by omega)]; omega
theorem steps_16 (q : Nat) : steps 4 (16 * q) = q := by
 show step (step (step (step (16 * q)))) = q
 rw [show 16 * q = 2 * (8 * q) from by omega, step_even, show 8 * q = 2 * (4 * q) from by omega, step_even, show 4 * q = 2 * (2 * q) from by omega, step_even, step_even]
theorem split16 (s : Nat) : s = (16 * (s / 16)) ^^^ (s % 16) := by
 have h : 2 ^ 4 * (s / 16) + s % 16 = 2 ^ 4 * (s / 16) ||| s % 16 := Nat.two_pow_add_eq_or_of_lt (by omega) _
 have hx : 2 ^ 4 * (s / 16) ^^^ s % 16 = 2 ^ 4 * (s / 16) + s % 16 := by
  apply Nat.eq_of_testBit_eq
  intro i
  rw [h, Nat.testBit_xor, Nat.testBit_or, Nat.testBit_two_pow_mul]
  by_cases hi : 4 ≤ i
  ·have : (s % 16).testBit i = false := Nat.testBit_lt_two_pow (Nat.lt_of_lt_of_le (show s % 16 < 2 ^ 4 by omega) (Nat.pow_le_pow_right (by decide) hi))
   rw [this]; simp
  ·simp [hi]
 rw [show 16 * (s / 16) = 2 ^ 4 * (s / 16) from rfl, hx]
 omega
def tab (i : Nat) : Nat := steps 4 i
theorem steps4 (s : Nat) : steps 4 s = tab (s % 16) ^^^ (s / 16) := by
 conv => lhs; rw [split16 s]
 rw [steps_xor, steps_16, Nat.xor_comm]; rfl
theorem step_lt (s : Nat) (h : s < 4294967296) : step s < 4294967296 := by
 unfold step
 split
 ·exact Nat.xor_lt_two_pow (n := 32) (by omega) (by omega)
 ·omega
theorem steps_lt (n : Nat) : ∀ s, s < 4294967296 → steps n s < 4294967296 := by
 induction n with
 | zero => intro s h; exact h
 | succ n ih => intro s h; exact ih _ (step_lt s h)
/-- the code's two steps of a byte -/
theorem byte_steps (s b : Nat) (hb : b < 256) :
  tab ((tab ((s ^^^ b) % 16) ^^^ s / 16 ^^^ b / 16) % 16) ^^^ (tab ((s ^^^ b) % 16) ^^^ s / 16) / 16 = steps 8 (s ^^^ b) := by
 rw [show (8 : Nat) = 4 + 4 from rfl, steps_add, steps4 (s ^^^ b)]
 have e : (s ^^^ b) / 16 = s / 16 ^^^ b / 16 := div_xor s b 4
 rw [e, ← Nat.xor_assoc, steps4]
 have e2 : (tab ((s ^^^ b) % 16) ^^^ s / 16 ^^^ b / 16) / 16 = (tab ((s ^^^ b) % 16) ^^^ s / 16) / 16 ^^^ b / 16 / 16 := div_xor _ _ 4
 rw [e2, show b / 16 / 16 = 0 from by omega, Nat.xor_zero]
/-! the sums, as integers -/
def tabI (i : Int) : Int := (tab (i % 16).toNat : Nat)
theorem tab_lt (i : Nat) (h : i < 16) : tab i < 4294967296 := steps_lt 4 i (by omega)
theorem tabI_bd (i : Int) : 0 ≤ tabI i ∧ tabI i ≤ 4294967295 := by
 have := tab_lt (i % 16).toNat (by omega)
 unfold tabI; omega
def byte (s b : Int) : Int := (steps 8 (s.toNat ^^^ b.toNat) : Nat)
theorem byte_bd (s b : Int) (h0 : 0 ≤ s) (h1 : s ≤ 4294967295) (h2 : 0 ≤ b) (h3 : b ≤ 255) : 0 ≤ byte s b ∧ byte s b ≤ 4294967295 := by
 have hx : s.toNat ^^^ b.toNat < 4294967296 := Nat.xor_lt_two_pow (n := 32) (by omega) (by omega)
 have := steps_lt 8 _ hx
 unfold byte; omega
def run (s : Int) (l : List Int) : Int := l.foldl byte s
theorem run_snoc (s : Int) (l : List Int) (b : Int) : run s (l ++ [b]) = byte (run s l) b := by unfold run; rw [List.foldl_append]; rfl
theorem run_bd (l : List Int) : ∀ s : Int, 0 ≤ s → s ≤ 4294967295 → (∀ b ∈ l, 0 ≤ b ∧ b ≤ 255) → 0 ≤ run s l ∧ run s l ≤ 4294967295 := by
 induction l with
 | nil => intro s h0 h1 _; exact ⟨h0, h1⟩
 | cons b l ih =>
  intro s h0 h1 hb
  have hb0 := hb b (by simp)
  have h2 := byte_bd s b h0 h1 hb0.1 hb0.2
  exact ih _ h2.1 h2.2 (fun c hc => hb c (by simp [hc]))
def more (s : Int) (l : List Int) : Int := 4294967295 - run (4294967295 - s) l
theorem more_bd (s : Int) (l : List Int) (h0 : 0 ≤ s) (h1 : s ≤ 4294967295) (hb : ∀ b ∈ l, 0 ≤ b ∧ b ≤ 255) : 0 ≤ more s l ∧ more s l ≤ 4294967295 := by
 have := run_bd l (4294967295 - s) (by omega) (by omega) hb
 unfold more; omega
theorem low_xor (a b : Nat) : (a % 256 ^^^ b) % 16 = (a ^^^ b) % 16 := by
 apply Nat.eq_of_testBit_eq
 intro i
 rw [show (16 : Nat) = 2 ^ 4 from rfl, show (256 : Nat) = 2 ^ 8 from rfl, Nat.testBit_mod_two_pow, Nat.testBit_mod_two_pow, Nat.testBit_xor, Nat.testBit_xor, Nat.testBit_mod_two_pow]
 by_cases hi : i < 4
 ·have : i < 8 := by omega
  simp [this]
 ·simp [hi]
theorem half_code (s b : Int) (h0 : 0 ≤ s) (h1 : s ≤ 4294967295) (h2 : 0 ≤ b) (h3 : b ≤ 255) :
  bits .xor .u32 (tabI (bits .xor .u8 (s % 256) b)) (s / 16) = ((tab ((s.toNat ^^^ b.toNat) % 16) ^^^ s.toNat / 16 : Nat) : Int) ∧
  0 ≤ bits .xor .u8 (s % 256) b ∧ bits .xor .u8 (s % 256) b ≤ 255 := by
 obtain ⟨S, rfl⟩ := Int.eq_ofNat_of_zero_le h0
 obtain ⟨B, rfl⟩ := Int.eq_ofNat_of_zero_le h2
 have e1 : (S : Int) % 256 = ((S % 256 : Nat) : Int) := by omega
 rw [e1, u8_xor_nat _ _ (by omega) (by omega)]
 have hlt : S % 256 ^^^ B < 256 := Nat.xor_lt_two_pow (n := 8) (by omega) (by omega)
 refine ⟨?_, by omega, by omega⟩
 have e2 : tabI ((S % 256 ^^^ B : Nat) : Int) = ((tab ((S ^^^ B) % 16) : Nat) : Int) := by
  unfold tabI
  rw [show (((S % 256 ^^^ B : Nat) : Int) % 16).toNat = (S % 256 ^^^ B) % 16 from by omega, low_xor]
 rw [e2, show ((S : Int) / 16) = ((S / 16 : Nat) : Int) from by omega, u32_xor_nat _ _ (tab_lt _ (by omega)) (by omega)]
 rfl
theorem byte_code (s b s1 : Int) (h0 : 0 ≤ s) (h1 : s ≤ 4294967295) (h2 : 0 ≤ b) (h3 : b ≤ 255) (e1 : bits .xor .u32 (tabI (bits .xor .u8 (s % 256) b)) (s / 16) = s1) :
  bits .xor .u32 (tabI (bits .xor .u8 (s1 % 256) (b / 16))) (s1 / 16) = byte s b := by
 have hh := half_code s b h0 h1 h2 h3
 rw [hh.1] at e1
 have hs1 : tab ((s.toNat ^^^ b.toNat) % 16) ^^^ s.toNat / 16 < 4294967296 := Nat.xor_lt_two_pow (n := 32) (tab_lt _ (by omega)) (by omega)
 have h4 := half_code s1 (b / 16) (by omega) (by omega) (by omega) (by omega)
 rw [h4.1]
 unfold byte
 rw [← byte_steps _ _ (by omega), ← e1, show (b / 16).toNat = b.toNat / 16 from by omega, Int.toNat_natCast]
def stepI (s : Int) (n : Nat) : Int := (steps n s.toNat : Nat)
theorem stepI_bd (s : Int) (n : Nat) (h0 : 0 ≤ s) (h1 : s ≤ 4294967295) : 0 ≤ stepI s n ∧ stepI s n ≤ 4294967295 := by
 have := steps_lt n s.toNat (by omega)
 unfold stepI; omega
theorem stepI_zero (s : Int) (h0 : 0 ≤ s) : stepI s 0 = s := by unfold stepI steps; omega
theorem stepI_odd (s : Int) (n : Nat) (h0 : 0 ≤ s) (h1 : s ≤ 4294967295) (h : stepI s n % 2 = 1) : bits .xor .u32 (stepI s n / 2) 3988292384 = stepI s (n + 1) := by
 have := steps_lt n s.toNat (by omega)
 unfold stepI at *
 rw [steps_succ]
 generalize steps n s.toNat = r at *
 have e : ((r : Int) / 2) = ((r / 2 : Nat) : Int) := by omega
 have e2 := u32_xor_nat (r / 2) 3988292384 (by omega) (by decide)
 unfold step
 rw [if_pos (by omega), e, ← e2]; rfl
theorem stepI_even (s : Int) (n : Nat) (h0 : 0 ≤ s) (h1 : s ≤ 4294967295) (h : ¬ stepI s n % 2 = 1) : stepI s n / 2 = stepI s (n + 1) := by
 unfold stepI at *
 rw [steps_succ]
 generalize steps n s.toNat = r at *
 unfold step
 rw [if_neg (by omega)]; omega
theorem xor_byte (s b : Int) (h0 : 0 ≤ s) (h1 : s ≤ 4294967295) (h2 : 0 ≤ b) (h3 : b ≤ 255) : 0 ≤ bits .xor .u32 s b ∧ bits .xor .u32 s b ≤ 4294967295 ∧ stepI (bits .xor .u32 s b) 8 = byte s b := by
 obtain ⟨S, rfl⟩ := Int.eq_ofNat_of_zero_le h0
 obtain ⟨B, rfl⟩ := Int.eq_ofNat_of_zero_le h2
 have hlt : S ^^^ B < 4294967296 := Nat.xor_lt_two_pow (n := 32) (by omega) (by omega)
 rw [u32_xor_nat _ _ (by omega) (by omega)]
 refine ⟨by omega, by omega, ?_⟩
 unfold stepI byte; simp only [Int.toNat_natCast]
theorem half_bd (s b s1 : Int) (h0 : 0 ≤ s) (h1 : s ≤ 4294967295) (h2 : 0 ≤ b) (h3 : b ≤ 255) (e1 : bits .xor .u32 (tabI (bits .xor .u8 (s % 256) b)) (s / 16) = s1) : 0 ≤ s1 ∧ s1 ≤ 4294967295 := by
 have hh := half_code s b h0 h1 h2 h3
 rw [hh.1] at e1
 have hs1 : tab ((s.toNat ^^^ b.toNat) % 16) ^^^ s.toNat / 16 < 4294967296 := Nat.xor_lt_two_pow (n := 32) (tab_lt _ (by omega)) (by omega)
 omega
theorem not_code (s : Int) (h0 : 0 ≤ s) (h1 : s ≤ 4294967295) : bits .xor .u32 IntKind.u32.max s = 4294967295 - s := by
 obtain ⟨S, rfl⟩ := Int.eq_ofNat_of_zero_le h0
 have e : IntKind.u32.max = ((4294967295 : Nat) : Int) := by decide
 rw [e, u32_xor_nat _ _ (by decide) (by omega)]
 have h : 4294967295 ^^^ S = 2 ^ 32 - (S + 1) := by
  apply Nat.eq_of_testBit_eq
  intro i
  rw [Nat.testBit_xor, Nat.testBit_two_pow_sub_succ (by omega), show (4294967295 : Nat) = 2 ^ 32 - 1 from rfl, Nat.testBit_two_pow_sub_one]
  by_cases hi : i < 32
  ·simp [hi]
  ·have : S.testBit i = false := Nat.testBit_lt_two_pow (Nat.lt_of_lt_of_le (show S < 2 ^ 32 by omega) (Nat.pow_le_pow_right (by decide) (by omega)))
   rw [this]; simp [hi]
 rw [h]; omega
theorem more_code (s : Int) (l : List Int) (h0 : 0 ≤ s) (h1 : s ≤ 4294967295) (hb : ∀ b ∈ l, 0 ≤ b ∧ b ≤ 255) : bits .xor .u32 IntKind.u32.max (run (4294967295 - s) l) = more s l := by
 have := run_bd l (4294967295 - s) (by omega) (by omega) hb
 rw [not_code _ this.1 this.2]; rfl
end Go.Proofs.Ytmekhdclnhhhbaa.Cr
end

section
namespace Go.Proofs.Ytmekhdclnhhhbaa.By
open Go Go.RowKit
/-- what is left of a word behind so many bytes -/
def rest (x : Int) (j : Nat) : Int := ((x.toNat / 256 ^ j : Nat) : Int)
def byteAt (x : Int) (j : Nat) : Int := rest x j % 256
def bytesTo (x : Int) (k : Nat) : List Int := (List.range k).map (byteAt x)
def bytes (xs : List Int) : List Int := xs.flatMap fun x => bytesTo x 8
theorem rest_bd (x : Int) (j : Nat) (h : x ≤ 18446744073709551615) : 0 ≤ rest x j ∧ rest x j ≤ 18446744073709551615 := by
 have : x.toNat / 256 ^ j ≤ x.toNat := Nat.div_le_self _ _
 unfold rest
 generalize x.toNat / 256 ^ j = r at *
 omega
theorem rest_zero (x : Int) (h : 0 ≤ x) : rest x 0 = x := by unfold rest; simp; omega
theorem rest_succ (x : Int) (j : Nat) : rest x j / 256 = rest x (j + 1) := by
 unfold rest
 rw [Nat.pow_succ, ← Nat.div_div_eq_div_mul]
 generalize x.toNat / 256 ^ j = r at *
 omega
theorem rest_shr (x : Int) (j : Nat) (h : 0 ≤ x) : x / 2 ^ (8 * j) = rest x j := by
 obtain ⟨X, rfl⟩ := Int.eq_ofNat_of_zero_le h
 have e : (2 : Nat) ^ (8 * j) = 256 ^ j := by rw [Nat.pow_mul]
 unfold rest
 rw [← Bt.pow_int, e, Int.toNat_natCast]
 exact (Int.natCast_ediv ..).symm
theorem byteAt_bd (x : Int) (j : Nat) : 0 ≤ byteAt x j ∧ byteAt x j ≤ 255 := by unfold byteAt; omega
theorem bytesTo_zero (x : Int) : bytesTo x 0 = [] := rfl
theorem bytesTo_succ (x : Int) (k : Nat) : bytesTo x (k + 1) = bytesTo x k ++ [byteAt x k] := by unfold bytesTo; rw [List.range_succ, List.map_append]; rfl
theorem bytes_snoc (xs : List Int) (x : Int) : bytes (xs ++ [x]) = bytes xs ++ bytesTo x 8 := by unfold bytes; simp
theorem bytesTo_wf (x : Int) (k : Nat) : ∀ b ∈ bytesTo x k, 0 ≤ b ∧ b ≤ 255 := by
 intro b hb
 unfold bytesTo at hb
 obtain ⟨j, _, rfl⟩ := List.mem_map.1 hb
 exact byteAt_bd x j
theorem bytes_bd (xs : List Int) : ∀ b ∈ bytes xs, 0 ≤ b ∧ b ≤ 255 := by
 intro b hb
 unfold bytes at hb
 obtain ⟨x, _, hx⟩ := List.mem_flatMap.1 hb
 exact bytesTo_wf x 8 b hx
theorem map_snoc (xs : List Int) (b : Int) (k : IntKind) : (xs ++ [b]).map (Value.int k) = xs.map (Value.int k) ++ [.int k b] := by simp
/-- the value of so many bytes from place i on, the lowest first; noughts behind the end -/
def low (bs : List Int) (i : Nat) : Nat → Int
 | 0 => 0
 | t + 1 => low bs i t + bs.getD (i + t) 0 * 256 ^ t
def word (bs : List Int) (j : Nat) : Int := low bs (8 * j) 8
def words (bs : List Int) : List Int := (List.range ((bs.length + 7) / 8)).map (word bs)
/-- words of the first n bytes, in a row of N -/
def fill (bs : List Int) (N n : Nat) : List Int := (List.range N).map (word (bs.take n))
end Go.Proofs.Ytmekhdclnhhhbaa.By
end

section
namespace Go.Proofs.Ytmekhdclnhhhbaa.Im
def zr : List Int → Nat
 | [] => 0
 | x :: l => if x = 0 then zr l + 1 else 0
def nr : List Int → Nat
 | [] => 0
 | x :: l => if x = 0 then 0 else nr l + 1
/-- how many words the first run has -/
def step (l : List Int) : Nat := zr l + nr (l.drop (zr l))
def runs : Nat → List Int → List (Nat × List Int)
 | 0, _ => []
 | f + 1, l => if l = [] then [] else (zr l, (l.drop (zr l)).take (nr (l.drop (zr l)))) :: runs f (l.drop (step l))
def rn (l : List Int) : List (Nat × List Int) := runs l.length l
def enc1 (r : Nat × List Int) : List Int := (r.1 : Int) :: (r.2.length : Int) :: r.2
def encs (rs : List (Nat × List Int)) : List Int := rs.flatMap enc1
def body (l : List Int) : List Int := encs (rn l)
def magic : Int := 13905993476890996
def head (l : List Int) : List Int := magic :: (l.length : Int) :: body l
def sum (l : List Int) : Int := Cr.more 0 (By.bytes l)
def out (l : List Int) : List Int := head l ++ [sum (head l)]
/-! reading -/
def bad (z m left o : Int) : Bool := decide (z > left ∨ m > left - z ∨ z + m = 0 ∨ (0 < o ∧ z = 0) ∨ (m = 0 ∧ z ≠ left))
def noZero (l : List Int) : Bool := l.all (fun x => decide (x ≠ 0))
def read : Nat → List Int → Int → List Int → List Int × Int
 | 0, _, _, _ => ([], 31)
 | f + 1, w, n, o =>
  if (o.length : Int) < n then
   if w.length < 2 then ([], 31)
   else if bad (w.getD 0 0) (w.getD 1 0) (n - o.length) o.length = true then ([], 26)
   else if (w.getD 1 0) > ((w.drop 2).length : Int) then ([], 31)
   else if noZero ((w.drop 2).take (w.getD 1 0).toNat) = true then read f ((w.drop 2).drop (w.getD 1 0).toNat) n (o ++ List.replicate (w.getD 0 0).toNat 0 ++ (w.drop 2).take (w.getD 1 0).toNat)
   else ([], 26)
  else if w.length > 0 then ([], 32) else (o, 0)
def load (d : List Int) : List Int × Int :=
 if d.length < 24 ∨ d.length % 8 ≠ 0 then ([], 31)
 else if (By.words d).getD 0 0 ≠ magic then ([], 24)
 else if (By.words d).getD ((By.words d).length - 1) 0 ≠ sum ((By.words d).take ((By.words d).length - 1)) then ([], 25)
 else if (By.words d).getD 1 0 > 131072 ∨ (By.words d).getD 1 0 % 8 ≠ 0 then ([], 26)
 else read (((By.words d).getD 1 0).toNat + 1) (((By.words d).take ((By.words d).length - 1)).drop 2) ((By.words d).getD 1 0) []
end Go.Proofs.Ytmekhdclnhhhbaa.Im
end

section
namespace Go.Proofs.Ytmekhdclnhhhbaa.Im
def U (l : List Int) : Prop := ∀ x ∈ l, 0 ≤ x ∧ x ≤ 18446744073709551615
theorem U.drop {l : List Int} (h : U l) (k : Nat) : U (l.drop k) := fun x hx => h x (List.mem_of_mem_drop hx)
theorem U.take {l : List Int} (h : U l) (k : Nat) : U (l.take k) := fun x hx => h x (List.mem_of_mem_take hx)
theorem sum_bd (l : List Int) : 0 ≤ sum l ∧ sum l ≤ 4294967295 := Cr.more_bd 0 _ (by omega) (by omega) (By.bytes_bd _)
end Go.Proofs.Ytmekhdclnhhhbaa.Im
end

section
namespace Go.Proofs.Ytmekhdclnhhhbaa.Nv
open Im
theorem U_set {l : List Int} (h : U l) (i : Nat) {v : Int} (hv : 0 ≤ v ∧ v ≤ 18446744073709551615) : U (l.set i v) := fun x hx => by
 rcases List.mem_or_eq_of_mem_set hx with h1 | h1
 ·exact h x h1
 ·rw [h1]; exact hv
theorem U_part {l : List Int} (h : U l) (i : Nat) : U (part l i) := (h.drop _).take _
theorem U_setPart {l p : List Int} (h : U l) (hp : U p) (i : Nat) : U (setPart l i p) := fun x hx => by
 unfold setPart at hx
 rcases List.mem_append.1 hx with hx | hx
 ·rcases List.mem_append.1 hx with hx | hx
  ·exact h.take _ x hx
  ·exact hp x hx
 ·exact h.drop _ x hx
structure Ud (d : D) : Prop where
 l : U d.last
 c : U d.cache
 f : U d.fl
theorem Ud.load {ws : List Int} (h : U ws) (m : Nat) : Ud (load ws m) := ⟨h, h, fun x hx => by rw [(List.mem_replicate.1 hx).2]; decide⟩
theorem Ud.killed {d : D} (h : Ud d) : Ud (killed d) := ⟨h.l, h.c, h.f⟩
theorem Ud.stepped {d : D} (h : Ud d) : Ud (stepped d) := ⟨h.l, h.c, h.f⟩
theorem Ud.flushed {d : D} (h : Ud d) (i : Nat) : Ud (flushed d i) := ⟨h.l, h.c, U_setPart h.f (U_part h.c i) i⟩
theorem Ud.fenceLine {d : D} (h : Ud d) (i : Nat) : Ud (fenceLine d i) := by
 unfold Nv.fenceLine
 split
 ·exact ⟨U_setPart h.l (U_part h.f i) i, h.c, h.f⟩
 ·exact h
theorem Ud.fenceTo {d : D} (h : Ud d) : ∀ k, Ud (fenceTo d k)
 | 0 => h
 | k + 1 => (Ud.fenceTo h k).fenceLine k
theorem Ud.store {d : D} (h : Ud d) (m : Nat) (a : Int) {v : Int} (hv : 0 ≤ v ∧ v ≤ 18446744073709551615) : Ud (store d m a v).1 := by
 unfold Nv.store
 split
 ·split
  ·exact h.killed
  ·exact ⟨h.l, U_set h.c _ hv, h.f⟩
 ·exact h
theorem Ud.flush {d : D} (h : Ud d) (m : Nat) (l : Int) : Ud (flush d m l).1 := by
 unfold Nv.flush
 split
 ·split
  ·exact h.killed
  ·show Ud (if _ then _ else _)
   split
   ·exact h.stepped.flushed _
   ·exact h.stepped
 ·exact h
theorem Ud.fence {d : D} (h : Ud d) (m : Nat) : Ud (fence d m).1 := by
 unfold Nv.fence
 split
 ·exact h.killed
 ·exact h.stepped.fenceTo _
end Go.Proofs.Ytmekhdclnhhhbaa.Nv
end

section
namespace Go.Proofs.Ytmekhdclnhhhbaa.Nv
theorem getD_set_ne {α : Type} (l : List α) (i j : Nat) (v z : α) (h : i ≠ j) : (l.set i v).getD j z = l.getD j z := by
 simp only [List.getD, List.getElem?_set_ne h]
/-- a line that is not dirty, and what it holds -/
structure Ln (d : D) (j : Nat) (f : Nat → Int) : Prop where
 cl : d.dirty.getD j false = false
 va : ∀ x, x / 8 = j → d.cache.getD x 0 = f x
variable {d : D} {j m : Nat} {f : Nat → Int}
theorem Ln.killed (h : Ln d j f) : Ln (killed d) j f := ⟨h.cl, h.va⟩
theorem Ln.stepped (h : Ln d j f) : Ln (stepped d) j f := ⟨h.cl, h.va⟩
theorem Ln.put (h : Ln d j f) (a : Nat) (ha : a / 8 ≠ j) (v : Int) : Ln (put d a v) j f :=
 ⟨(getD_set_ne _ _ _ _ _ ha).trans h.cl, fun x hx => (getD_set_ne _ _ _ _ _ (fun e => ha (by rw [e]; exact hx))).trans (h.va x hx)⟩
theorem Ln.flushed (h : Ln d j f) (i : Nat) : Ln (flushed d i) j f := ⟨h.cl, h.va⟩
theorem Ln.fenceLine (h : Ln d j f) (hI : Inv d m) (i : Nat) : Ln (fenceLine d i) j f := by
 unfold Nv.fenceLine
 split
 ·rename_i hp
  have hne : i ≠ j := fun e => by
   have := hI.pd i hp
   rw [e, h.cl] at this; cases this
  exact ⟨(getD_set_ne _ _ _ _ _ hne).trans h.cl, h.va⟩
 ·exact h
theorem Ln.fenceTo (h : Ln d j f) (hI : Inv d m) : ∀ k, k ≤ m → Ln (fenceTo d k) j f
 | 0, _ => h
 | k + 1, hk => (Ln.fenceTo h hI k (by omega)).fenceLine (hI.fenceTo k (by omega)) k
theorem Ln.store (h : Ln d j f) (m : Nat) (a : Nat) (ha : a / 8 ≠ j) (v : Int) : Ln (store d m a v).1 j f := by
 unfold Nv.store; split
 ·split
  ·exact h.killed
  ·exact h.stepped.put _ (by rw [Int.toNat_natCast]; exact ha) _
 ·exact h
theorem Ln.flush (h : Ln d j f) (m : Nat) (l : Int) : Ln (flush d m l).1 j f := by
 unfold Nv.flush; split
 ·split
  ·exact h.killed
  ·show Ln (if _ then _ else _) j f
   split
   ·exact h.stepped.flushed _
   ·exact h.stepped
 ·exact h
theorem Ln.fence (h : Ln d j f) (hI : Inv d m) : Ln (fence d m).1 j f := by
 unfold Nv.fence; split
 ·exact h.killed
 ·exact h.stepped.fenceTo hI.stepped m (Nat.le_refl _)
theorem Ln.flushAll : ∀ (k i : Nat) (d : D), Ln d j f → Ln (flushAll d m i k).1 j f
 | 0, _, _, h => h
 | k + 1, i, d, h => by
  unfold Nv.flushAll; split
  ·exact Ln.flushAll k _ _ (h.flush m _)
  ·exact h.flush m _
theorem Ln.persist (h : Ln d j f) (hI : Inv d m) (a n : Int) : Ln (persist d m a n).1 j f := by
 unfold Nv.persist; split
 ·exact h
 ·split
  ·exact h.fence hI
  ·split
   ·exact (Ln.flushAll _ _ _ h).fence (Inv.flushAll _ _ _ hI)
   ·exact Ln.flushAll _ _ _ h
theorem order_lt : ∀ k, k < 16 → order.getD k 0 < 16 := by decide
theorem Ln.wrTo (h : Ln d j f) (m a : Nat) (ws : List Int) (hne : ∀ i, i < 16 → (a + i) / 8 ≠ j) : ∀ k, k ≤ 16 → Ln (wrTo d m a ws k).1 j f
 | 0, _ => h
 | k + 1, hk => by
  have ih := Ln.wrTo h m a ws hne k (by omega)
  rw [Nv.wrTo]
  split
  ·rw [show (a : Int) + ((order.getD k 0 : Nat) : Int) = ((a + order.getD k 0 : Nat) : Int) by omega]
   exact ih.store m _ (hne _ (order_lt k (by omega))) _
  ·exact ih
theorem Ln.wr (h : Ln d j f) (hI : Inv d m) (a : Nat) (ws : List Int) (hne : ∀ i, i < 16 → (a + i) / 8 ≠ j) : Ln (wr d m a ws).1 j f := by
 unfold Nv.wr; split
 ·exact (h.wrTo m a ws hne 16 (Nat.le_refl _)).persist (hI.wrTo a ws 16) _ _
 ·exact h.wrTo m a ws hne 16 (Nat.le_refl _)
theorem Ln.wiTo (h : Ln d j f) (m a : Nat) (hne : ∀ i, i < 16 → (a + i) / 8 ≠ j) : ∀ k, k ≤ 2 → Ln (wiTo d m a k).1 j f
 | 0, _ => h
 | k + 1, hk => by
  have ih := Ln.wiTo h m a hne k (by omega)
  rw [Nv.wiTo]
  split
  ·rw [show (a : Int) + 8 * (k : Int) = ((a + 8 * k : Nat) : Int) by omega]
   exact ih.store m _ (hne _ (by omega)) _
  ·exact ih
theorem Ln.wi (h : Ln d j f) (hI : Inv d m) (a : Nat) (E : Int) (hne : ∀ i, i < 16 → (a + i) / 8 ≠ j) : Ln (wi d m a E).1 j f := by
 unfold Nv.wi; split
 ·exact h
 split
 ·exact (h.wiTo m a hne 2 (Nat.le_refl _)).persist (hI.wiTo a 2) _ _
 ·exact h.wiTo m a hne 2 (Nat.le_refl _)
theorem Ln.cm (h : Ln d j f) (hI : Inv d m) (E : Int) (k : Nat) (ws : List Int) (hne : ∀ i, i < 16 → (64 + 64 * (1 - k) + i) / 8 ≠ j) : Ln (cm d m E k ws).1 j f := by
 unfold Nv.cm; split
 ·exact h
 split
 ·exact (h.wi hI _ E hne).wr (hI.wi _ E) _ _ hne
 ·exact h.wi hI _ E hne
theorem Ln.crash (h : Ln d j f) (hI : Inv d m) (hj : j < m) (cs : List Int) (n : Nat) : Ln (load (crashTo d (dirtyTo d.dirty m) cs n) m) j f :=
 ⟨by show (List.replicate m false).getD j false = false; simp [List.getD, List.getElem?_replicate]; split <;> rfl,
  fun x hx => by
   show (crashTo d (dirtyTo d.dirty m) cs n).getD x 0 = f x
   rw [crashTo_clean hI.ok cs x (by rw [hx]; exact h.cl), hI.cl x (by omega) (by rw [hx]; exact h.cl)]
   exact h.va x hx⟩
/- what is written is there -/
theorem flush_cache (d : D) (m : Nat) (l : Int) : (flush d m l).1.cache = d.cache := by
 unfold Nv.flush; split
 ·split
  ·rfl
  ·show (if _ then _ else _ : D).cache = _
   split <;> rfl
 ·rfl
theorem flushAll_cache (m : Nat) : ∀ (k i : Nat) (d : D), (flushAll d m i k).1.cache = d.cache
 | 0, _, _ => rfl
 | k + 1, i, d => by
  unfold Nv.flushAll; split
  ·rw [flushAll_cache m k]; exact flush_cache _ _ _
  ·exact flush_cache _ _ _
theorem fence_cache (d : D) (m : Nat) : (fence d m).1.cache = d.cache := by
 unfold Nv.fence; split
 ·rfl
 ·exact (fenceTo_same (Nv.stepped d) m).2.1
theorem persist_cache (d : D) (m : Nat) (a n : Int) : (persist d m a n).1.cache = d.cache := by
 unfold Nv.persist; split
 ·rfl
 split
 ·exact fence_cache _ _
 split
 ·rw [fence_cache]; exact flushAll_cache _ _ _ _
 ·exact flushAll_cache _ _ _ _
theorem store_cache {d : D} {m : Nat} {a : Nat} {v : Int} (h : (store d m a v).2 = 0) : (store d m a v).1.cache = d.cache.set a v ∧ a < 8 * m := by
 unfold Nv.store at h ⊢
 split
 ·rename_i hr
  rw [if_pos hr] at h
  split
  ·rename_i hs; rw [if_pos hs] at h; cases h
  ·refine ⟨?_, by omega⟩
   show (Nv.put (Nv.stepped d) (a : Int).toNat v).cache = _
   rw [Int.toNat_natCast]; rfl
 ·rename_i hr
  rw [if_neg hr] at h; cases h
theorem wrTo_cache {d : D} {m a : Nat} {ws : List Int} (hI : Inv d m) : ∀ k, k ≤ 16 → (wrTo d m a ws k).2 = 0 → ∀ i, i < k → (wrTo d m a ws k).1.cache.getD (a + order.getD i 0) 0 = ws.getD (order.getD i 0) 0
 | 0, _, _, i, hi => by omega
 | k + 1, hk, h, i, hi => by
  have hz : (wrTo d m a ws k).2 = 0 := by
   apply Classical.byContradiction
   intro hn
   rw [Nv.wrTo, if_neg hn] at h
   exact hn h
  have ih := wrTo_cache hI k (by omega) hz
  rw [wrTo_succ d m a ws k hz] at h ⊢
  rw [show (a : Int) + ((order.getD k 0 : Nat) : Int) = ((a + order.getD k 0 : Nat) : Int) by omega] at h ⊢
  obtain ⟨h1, h2⟩ := store_cache h
  rw [h1, getD_set _ _ _ _ _ (by rw [(hI.wrTo a ws k).ok.hc]; exact h2)]
  split
  ·rename_i e
   rw [show order.getD i 0 = order.getD k 0 by omega]
  ·rename_i e
   exact ih i (by
    have : i ≠ k := fun hik => e (by rw [hik])
    omega)
theorem order_has : ∀ i, i < 16 → ∃ j, j < 16 ∧ order.getD j 0 = i := by decide
theorem wr_there {d : D} {m a : Nat} {ws : List Int} (hI : Inv d m) (h : (wr d m a ws).2 = 0) (i : Nat) (hi : i < 16) : (wr d m a ws).1.cache.getD (a + i) 0 = ws.getD i 0 ∧ (wr d m a ws).1.dirty.getD ((a + i) / 8) false = false := by
 unfold Nv.wr at h ⊢
 split
 ·rename_i hz
  rw [if_pos hz] at h
  refine ⟨?_, (persist_clean (hI.wrTo a ws 16) h (a + i) (by omega) (by omega)).2⟩
  rw [persist_cache]
  obtain ⟨q, hq, e⟩ := order_has i hi
  rw [← e]
  exact wrTo_cache hI 16 (Nat.le_refl _) hz q hq
 ·rename_i hz
  rw [if_neg hz] at h; exact absurd h hz
/- words of 64 bits -/
open Im
theorem Ud.flushAll (m : Nat) : ∀ (k i : Nat) (d : D), Ud d → Ud (flushAll d m i k).1
 | 0, _, _, h => h
 | k + 1, i, d, h => by
  unfold Nv.flushAll; split
  ·exact Ud.flushAll m k _ _ (h.flush m _)
  ·exact h.flush m _
theorem Ud.persist {d : D} (h : Ud d) (m : Nat) (a n : Int) : Ud (persist d m a n).1 := by
 unfold Nv.persist; split
 ·exact h
 ·split
  ·exact h.fence m
  ·split
   ·exact (Ud.flushAll m _ _ _ h).fence m
   ·exact Ud.flushAll m _ _ _ h
theorem U_getD {ws : List Int} (h : U ws) (i : Nat) : 0 ≤ ws.getD i 0 ∧ ws.getD i 0 ≤ 18446744073709551615 := by
 simp only [List.getD]
 cases e : ws[i]? with
 | none => simp
 | some v => exact h v (List.mem_of_getElem? e)
theorem Ud.wrTo {d : D} (h : Ud d) (m a : Nat) {ws : List Int} (hw : U ws) : ∀ k, Ud (wrTo d m a ws k).1
 | 0 => h
 | k + 1 => by
  have ih := Ud.wrTo h m a hw k
  rw [Nv.wrTo]
  split
  ·exact ih.store m _ (U_getD hw _)
  ·exact ih
theorem Ud.wr {d : D} (h : Ud d) (m a : Nat) {ws : List Int} (hw : U ws) : Ud (wr d m a ws).1 := by
 unfold Nv.wr; split
 ·exact (h.wrTo m a hw 16).persist m _ _
 ·exact h.wrTo m a hw 16
theorem Ud.wiTo {d : D} (h : Ud d) (m a : Nat) : ∀ k, Ud (wiTo d m a k).1
 | 0 => h
 | k + 1 => by
  have ih := Ud.wiTo h m a k
  rw [Nv.wiTo]
  split
  ·exact ih.store m _ ⟨by omega, by omega⟩
  ·exact ih
theorem Ud.wi {d : D} (h : Ud d) (m a : Nat) (E : Int) : Ud (wi d m a E).1 := by
 unfold Nv.wi; split
 ·exact h
 split
 ·exact (h.wiTo m a 2).persist m _ _
 ·exact h.wiTo m a 2
theorem Ud.cm {d : D} (h : Ud d) (m : Nat) (E : Int) (k : Nat) {ws : List Int} (hw : U ws) : Ud (cm d m E k ws).1 := by
 unfold Nv.cm; split
 ·exact h
 split
 ·exact (h.wi m _ E).wr m _ hw
 ·exact h.wi m _ E
theorem U_crashTo {d : D} (h : Ud d) (ls cs : List Int) : ∀ k, U (crashTo d ls cs k)
 | 0 => h.l
 | k + 1 => by
  have ih := U_crashTo h ls cs k
  rw [crashTo_succ]
  split
  ·unfold Nv.crashOne
   split
   ·split
    ·exact U_setPart ih (U_part h.f _) _
    ·exact ih
   ·split
    ·exact U_setPart ih (U_part h.c _) _
    ·exact ih
  ·exact ih
/- a device that doesn't stop -/
theorem wrTo_live {d : D} {m a : Nat} (h : Live d) (ws : List Int) (ha : a + 16 ≤ 8 * m) : ∀ k, k ≤ 16 → (wrTo d m a ws k).2 = 0 ∧ Live (wrTo d m a ws k).1
 | 0, _ => ⟨rfl, h⟩
 | k + 1, hk => by
  obtain ⟨h1, h2⟩ := wrTo_live h ws ha k (by omega)
  have := order_lt k (by omega)
  rw [wrTo_succ d m a ws k h1, show (a : Int) + ((order.getD k 0 : Nat) : Int) = ((a + order.getD k 0 : Nat) : Int) by omega, store_live h2 (by omega)]
  exact ⟨rfl, h2.stepped.put _ _⟩
theorem wr_live {d : D} {m a : Nat} (h : Live d) (ws : List Int) (ha : a + 16 ≤ 8 * m) : (wr d m a ws).2 = 0 ∧ Live (wr d m a ws).1 := by
 obtain ⟨h1, h2⟩ := wrTo_live h ws ha 16 (Nat.le_refl _)
 rw [wr_end d m a ws h1]
 obtain ⟨a1, a2, _⟩ := persist_live h2 (a := a) (n := 16) ha
 exact ⟨a1, a2⟩
end Go.Proofs.Ytmekhdclnhhhbaa.Nv
end

section
namespace Go.Proofs.Ytmekhdclnhhhbaa
open Go.RowKit
section
variable {P : Program} {n : Nat} {f : Nat → Value} {W w0 : World} {dst : Option Tmp} {ty : TypeId} {pos : String} {af : Array Edge} {g : Option (Nat × Bool)} {x y : Operand} {t t2 e e1 e2 : TypeId}
/-- a cell of an array by value -/
theorem r_iv {k : IntKind} {l i : Nat} {a : Int} {cs : List Value} {v : Value} (hx : ev n f x = .agg cs.toArray) (hy : ev n f y = .int k a) (ha : a = (i : Int)) (hi : i < l) (hv : cs[i]? = some v) (h : P.underlying t = some (.array l e)) (hm : ∀ W, (Go.sizeOf e).run P W = .ok 1 W) (hagg : ∀ W, (isAgg e).run P W = .ok false W) :
  (execOp (ev n f) ⟨dst, .index t x y, ty, pos, af, g⟩).run P W = .ok (.value v) W := by
 subst ha
 have h1 : (0 : Int) ≤ i ∧ (i : Int) < l := by omega
 have h2 : cs.toArray[i]? = some v := by simpa using hv
 simp only [execOp, Instr.index, hx, hy, asIntOf, Sem.run_bind, run_underlying h, Result.andThen_ok, Sem.run_pure, h1, and_self, if_true, hm, Int.toNat_natCast, part, hagg, Bool.false_eq_true, if_false, Nat.mul_one, h2]
end
theorem Heap.blk_reads {α : Type} {enc : α → Value} {w0 W : World} {F : List Nat} {L : List Ent} (H : Heap w0 F L W) (j : Nat) {q : Nat} {cs : List Value} {zs : List α} {T : TypeId} (hj : L[j]? = some (blk q cs T)) (hc : cs = zs.map enc) : Reads enc W q 0 zs := by
 subst hc
 intro i z hz
 rw [Nat.zero_add, Joins.cell_of_block (H.blk_get j hj)]
 simp [hz]
section
variable {P : Program} {ops : Array Oper} {rest : List Oper} {n k k2 : Nat} {f : Nat → Value} {W w0 : World} {F : List Nat} {L : List Ent} {Q : Exit → Act → World → Prop} {ty ty2 : TypeId} {pos pos2 : String} {af af2 : Array Edge} {g : Option (Nat × Bool)} {x y s : Operand} {v u : Value} {t e : TypeId}
/-- copy(dst, y) of what is read now: all of y -/
theorem s_cpW {α : Type} {enc : α → Value} {dst : Operand} {t1 : TypeId} {p o q r l ld c1 c2 : Nat} {xs zs : List α} {T : TypeId} (H : Heap w0 F L W) (j : Nat) (hw : Region.wanted ⟨some k, .call ⟨.builtin .copy, #[dst, y], #[t, t1]⟩, ty, pos, af, g⟩ (yl n f ops) = true)
  (hd : ev n f dst = .slice (some ⟨p, o, none⟩) ld c1) (hs : ev n f y = .slice (some ⟨q, r, none⟩) l c2) (hj : L[j]? = some (vec enc p xs T)) (hr2 : Reads enc W q r zs) (hl : zs.length = l) (h1 : ∀ z, (enc z).oneCell' = true)
  (hfit : o + l ≤ xs.length ∧ l ≤ ld ∧ 0 < l) (ht : P.underlying t = some (.slice e)) {z0 : Value} {bytes : Nat} (hin : Inf P e z0 1 bytes)
  (h : ∀ W', Heap w0 F (L.set j (vec enc p (xs.take o ++ (zs ++ xs.drop (o + l))) T)) W' → SL P ops Q rest n (upd f k (.int .i64 l)) W') : SL P ops Q (⟨some k, .call ⟨.builtin .copy, #[dst, y], #[t, t1]⟩, ty, pos, af, g⟩ :: rest) n f W := by
 obtain ⟨ii, hii, _, hsz, _⟩ := hin.ex
 obtain ⟨rs, hrs⟩ := H.vec_get j hj (by omega)
 have hrun := run_copy_row (P := P) W t t1 ty e p o ld c1 ⟨q, r, none⟩ l c2 _ T (zs.map enc) ht (by simp [hii, hsz]) hrs (by rw [List.length_map, hl]; exact (Nat.min_eq_left hfit.2.1).symm)
  (fun a u ha => by
   rw [List.getElem?_map] at ha
   cases hza : zs[a]? with
   | none => rw [hza] at ha; simp at ha
   | some z => rw [hza] at ha; rw [add_plain, hr2 a z hza]; simpa using ha) (by simp; omega) (fun u hu => by
   obtain ⟨z, _, rfl⟩ := List.mem_map.1 hu; exact h1 z)
 have H2 := H.vec_cp j hj (o := o) (ys := zs) (by omega) (by omega) hrs
 simp only [List.length_map, hl] at hrun H2
 exact s_run rfl hw (by simp only [execOp, resolve, invoke, builtin, List.map_toArray, List.map_cons, List.map_nil, hd, hs, Sem.run_bind, Sem.run_pure, Result.andThen_ok, hrun]; rfl) (h _ H2)
end
end Go.Proofs.Ytmekhdclnhhhbaa
end

section
namespace Go.Proofs.Ytmekhdclnhhhbaa
open Go.RowKit
/-- where a device lies -/
structure Geo where
  p : Nat
  bl : Nat
  bc : Nat
  bf : Nat
  bd : Nat
  bp : Nat
  cl : Nat
  cc : Nat
  cf : Nat
  cd : Nat
  cp : Nat
def devCells (g : Geo) (d : Nv.D) : List Value :=
  [.slice (some ⟨g.bl, 0, none⟩) d.last.length g.cl, .slice (some ⟨g.bc, 0, none⟩) d.cache.length g.cc, .slice (some ⟨g.bf, 0, none⟩) d.fl.length g.cf, .slice (some ⟨g.bd, 0, none⟩) d.dirty.length g.cd, .slice (some ⟨g.bp, 0, none⟩) d.pend.length g.cp,
   .int .i64 d.steps, .int .i64 d.fuse, .bool d.armed, .bool d.dead]
def devL (g : Geo) (d : Nv.D) : List Ent :=
  [blk g.p (devCells g d) 114, vec (Value.int .u64) g.bl d.last 22, vec (Value.int .u64) g.bc d.cache 22, vec (Value.int .u64) g.bf d.fl 22, vec Value.bool g.bd d.dirty 4, vec Value.bool g.bp d.pend 4]
abbrev ptr (b : Nat) : Value := .pointer (some ⟨b, 0, none⟩)
theorem nStep_no (g : Geo) (d : Nv.D) (w : World) (hE : Ents (devL g d) w) (hs : Nv.stops d = true) :
    Calls Try.prog 70 [ptr g.p].toArray w fun e w' => e = .returned (.bool false) ∧ Heap w (ids (devL g d)) (devL g (Nv.killed d)) w' := by
  have H := Heap.start hE
  generalize hF : ids (devL g d) = F at H ⊢
  unfold devL devCells at H
  by_cases h : d.dead = true
  · rw [h] at H
    refine k_in (N := 37) Try.func70 rfl rfl rfl ?_
    refine k_sg ?_
    refine s_run rfl rfl (rab rfl) ?_
    refine k_nc ?_
    refine k_seq ?_
    refine k_sg ?_
    refine s_run rfl rfl (rmp rfl) ?_
    refine s_run rfl rfl (r_nc rfl) ?_
    refine s_run rfl rfl (r_fa0 rfl fo114_8) ?_
    refine s_run rfl rfl (r_lo H 0 rfl rfl rfl ag4) ?_
    refine s_run rfl rfl (rmb rfl) ?_
    refine s_off rfl (g_off 7 (by kernel_rfl) rfl rfl) ?_
    refine s_off rfl (g_off 7 (by kernel_rfl) rfl rfl) ?_
    refine s_off rfl (g_off 7 (by kernel_rfl) rfl rfl) ?_
    refine s_off rfl (g_off 7 (by kernel_rfl) rfl rfl) ?_
    refine s_off rfl (g_off 7 (by kernel_rfl) rfl rfl) ?_
    refine s_off rfl (g_un 12 (by kernel_rfl) rfl) ?_
    refine s_off rfl (g_un 12 (by kernel_rfl) rfl) ?_
    refine s_off rfl (g_un 12 (by kernel_rfl) rfl) ?_
    refine s_off rfl (g_un 12 (by kernel_rfl) rfl) ?_
    refine s_off rfl (g_un 12 (by kernel_rfl) rfl) ?_
    refine s_off rfl (g_off 7 (by kernel_rfl) rfl rfl) ?_
    refine s_run rfl rfl (r_pkT (v := .bool _) rfl rfl) ?_
    refine k_nc ?_
    refine k_t rfl ?_
    refine k_sg ?_
    refine s_run rfl rfl (rmp rfl) ?_
    refine s_run rfl rfl (r_nc rfl) ?_
    refine s_run rfl rfl (r_fa0 rfl fo114_8) ?_
    refine s_st (u := .bool _) H 0 rfl rfl rfl rfl rfl rfl sz4 ?_
    clear H; intro _ H; simp only [jA, jB, jC, jD, jE, jF, jG, jH, jI, jJ, jK, Nat.reduceAdd] at H
    refine k_nc ?_
    refine k_sg ?_
    refine s_run rfl rfl (rab rfl) ?_
    refine k_nc ?_
    refine k_ret ?_
    refine c_ret ?_
    refine fin1r (v := .bool _) rfl rfl ?_
    exact ⟨rfl, H⟩
  · have h1 : d.dead = false := by simpa using h
    have h2 : d.armed = true ∧ d.fuse = 0 := by simpa [Nv.stops, h1] using hs
    rw [h1, h2.1, h2.2] at H
    refine k_in (N := 37) Try.func70 rfl rfl rfl ?_
    refine k_sg ?_
    refine s_run rfl rfl (rab rfl) ?_
    refine k_nc ?_
    refine k_seq ?_
    refine k_sg ?_
    refine s_run rfl rfl (rmp rfl) ?_
    refine s_run rfl rfl (r_nc rfl) ?_
    refine s_run rfl rfl (r_fa0 rfl fo114_8) ?_
    refine s_run rfl rfl (r_lo H 0 rfl rfl rfl ag4) ?_
    refine s_run rfl rfl (rmb rfl) ?_
    refine s_run rfl (g_on 7 (by kernel_rfl) rfl) (rmp rfl) ?_
    refine s_run rfl (g_on 7 (by kernel_rfl) rfl) (r_nc rfl) ?_
    refine s_run rfl (g_on 7 (by kernel_rfl) rfl) (r_fa0 rfl fo114_7) ?_
    refine s_run rfl (g_on 7 (by kernel_rfl) rfl) (r_lo H 0 rfl rfl rfl ag4) ?_
    refine s_run rfl (g_on 7 (by kernel_rfl) rfl) (rmb rfl) ?_
    refine s_run rfl (g_on 12 (by kernel_rfl) rfl) (rmp rfl) ?_
    refine s_run rfl (g_on 12 (by kernel_rfl) rfl) (r_nc rfl) ?_
    refine s_run rfl (g_on 12 (by kernel_rfl) rfl) (r_fa0 rfl fo114_6) ?_
    refine s_run rfl (g_on 12 (by kernel_rfl) rfl) (r_lo H 0 rfl rfl rfl ag3) ?_
    refine s_run rfl (g_on 12 (by kernel_rfl) rfl) (r_eqlT rfl rfl (by omega)) ?_
    refine s_run rfl (g_on 7 (by kernel_rfl) rfl) (r_pkT (v := .bool _) rfl rfl) ?_
    refine s_run rfl rfl (r_pkF (v := .bool _) rfl rfl) ?_
    refine k_nc ?_
    refine k_t rfl ?_
    refine k_sg ?_
    refine s_run rfl rfl (rmp rfl) ?_
    refine s_run rfl rfl (r_nc rfl) ?_
    refine s_run rfl rfl (r_fa0 rfl fo114_8) ?_
    refine s_st (u := .bool _) H 0 rfl rfl rfl rfl rfl rfl sz4 ?_
    clear H; intro _ H; simp only [jA, jB, jC, jD, jE, jF, jG, jH, jI, jJ, jK, Nat.reduceAdd] at H
    refine k_nc ?_
    refine k_sg ?_
    refine s_run rfl rfl (rab rfl) ?_
    refine k_nc ?_
    refine k_ret ?_
    refine c_ret ?_
    refine fin1r (v := .bool _) rfl rfl ?_
    refine ⟨rfl, ?_⟩
    unfold devL devCells Nv.killed
    rw [h2.1, h2.2]
    exact H
theorem nStep_yes (g : Geo) (d : Nv.D) (w : World) (hE : Ents (devL g d) w) (hs : Nv.stops d = false) :
    Calls Try.prog 70 [ptr g.p].toArray w fun e w' => e = .returned (.bool true) ∧ Heap w (ids (devL g d)) (devL g (Nv.stepped d)) w' := by
  have H := Heap.start hE
  generalize hF : ids (devL g d) = F at H ⊢
  unfold devL devCells at H
  have h1 : d.dead = false ∧ (d.armed = true → ¬ d.fuse = 0) := by simpa [Nv.stops] using hs
  obtain ⟨h1, h2⟩ := h1
  rw [h1] at H
  by_cases h3 : d.armed = true
  · have h4 : ¬ d.fuse = 0 := h2 h3
    rw [h3] at H
    refine k_in (N := 37) Try.func70 rfl rfl rfl ?_
    refine k_sg ?_
    refine s_run rfl rfl (rab rfl) ?_
    refine k_nc ?_
    refine k_seq ?_
    refine k_sg ?_
    refine s_run rfl rfl (rmp rfl) ?_
    refine s_run rfl rfl (r_nc rfl) ?_
    refine s_run rfl rfl (r_fa0 rfl fo114_8) ?_
    refine s_run rfl rfl (r_lo H 0 rfl rfl rfl ag4) ?_
    refine s_run rfl rfl (rmb rfl) ?_
    refine s_run rfl (g_on 7 (by kernel_rfl) rfl) (rmp rfl) ?_
    refine s_run rfl (g_on 7 (by kernel_rfl) rfl) (r_nc rfl) ?_
    refine s_run rfl (g_on 7 (by kernel_rfl) rfl) (r_fa0 rfl fo114_7) ?_
    refine s_run rfl (g_on 7 (by kernel_rfl) rfl) (r_lo H 0 rfl rfl rfl ag4) ?_
    refine s_run rfl (g_on 7 (by kernel_rfl) rfl) (rmb rfl) ?_
    refine s_run rfl (g_on 12 (by kernel_rfl) rfl) (rmp rfl) ?_
    refine s_run rfl (g_on 12 (by kernel_rfl) rfl) (r_nc rfl) ?_
    refine s_run rfl (g_on 12 (by kernel_rfl) rfl) (r_fa0 rfl fo114_6) ?_
    refine s_run rfl (g_on 12 (by kernel_rfl) rfl) (r_lo H 0 rfl rfl rfl ag3) ?_
    refine s_run rfl (g_on 12 (by kernel_rfl) rfl) (r_eqlF rfl rfl (by omega)) ?_
    refine s_run rfl (g_on 7 (by kernel_rfl) rfl) (r_pkT (v := .bool _) rfl rfl) ?_
    refine s_run rfl rfl (r_pkF (v := .bool _) rfl rfl) ?_
    refine k_nc ?_
    refine k_f rfl ?_
    refine k_skip ?_
    refine c_norm ?_
    refine k_sg ?_
    refine s_run rfl rfl (rmp rfl) ?_
    refine s_run rfl rfl (r_nc rfl) ?_
    refine s_run rfl rfl (r_fa0 rfl fo114_6) ?_
    refine s_run rfl rfl (r_lo H 0 rfl rfl rfl ag3) ?_
    refine s_run rfl rfl (r_sub rfl rfl rfl) ?_
    refine s_run rfl rfl (r_nc rfl) ?_
    refine s_run rfl rfl (r_fa0 rfl fo114_6) ?_
    refine s_st (u := .int _ _) H 0 rfl rfl rfl rfl rfl rfl sz3 ?_
    clear H; intro _ H; simp only [jA, jB, jC, jD, jE, jF, jG, jH, jI, jJ, jK, Nat.reduceAdd] at H
    refine k_nc ?_
    refine k_sg ?_
    refine s_run rfl rfl (rmp rfl) ?_
    refine s_run rfl rfl (r_nc rfl) ?_
    refine s_run rfl rfl (r_fa0 rfl fo114_5) ?_
    refine s_run rfl rfl (r_lo H 0 rfl rfl rfl ag3) ?_
    refine s_run rfl rfl (r_add rfl rfl rfl) ?_
    refine s_run rfl rfl (r_nc rfl) ?_
    refine s_run rfl rfl (r_fa0 rfl fo114_5) ?_
    refine s_st (u := .int _ _) H 0 rfl rfl rfl rfl rfl rfl sz3 ?_
    clear H; intro _ H; simp only [jA, jB, jC, jD, jE, jF, jG, jH, jI, jJ, jK, Nat.reduceAdd] at H
    refine k_nc ?_
    refine k_sg ?_
    refine s_run rfl rfl (rab rfl) ?_
    refine k_nc ?_
    refine k_ret ?_
    refine fin1r (v := .bool _) rfl rfl ?_
    refine ⟨rfl, ?_⟩
    unfold devL devCells Nv.stepped
    rw [h1, h3]
    exact H
  · have h3 : d.armed = false := by simpa using h3
    rw [h3] at H
    refine k_in (N := 37) Try.func70 rfl rfl rfl ?_
    refine k_sg ?_
    refine s_run rfl rfl (rab rfl) ?_
    refine k_nc ?_
    refine k_seq ?_
    refine k_sg ?_
    refine s_run rfl rfl (rmp rfl) ?_
    refine s_run rfl rfl (r_nc rfl) ?_
    refine s_run rfl rfl (r_fa0 rfl fo114_8) ?_
    refine s_run rfl rfl (r_lo H 0 rfl rfl rfl ag4) ?_
    refine s_run rfl rfl (rmb rfl) ?_
    refine s_run rfl (g_on 7 (by kernel_rfl) rfl) (rmp rfl) ?_
    refine s_run rfl (g_on 7 (by kernel_rfl) rfl) (r_nc rfl) ?_
    refine s_run rfl (g_on 7 (by kernel_rfl) rfl) (r_fa0 rfl fo114_7) ?_
    refine s_run rfl (g_on 7 (by kernel_rfl) rfl) (r_lo H 0 rfl rfl rfl ag4) ?_
    refine s_run rfl (g_on 7 (by kernel_rfl) rfl) (rmb rfl) ?_
    refine s_off rfl (g_off 12 (by kernel_rfl) rfl rfl) ?_
    refine s_off rfl (g_off 12 (by kernel_rfl) rfl rfl) ?_
    refine s_off rfl (g_off 12 (by kernel_rfl) rfl rfl) ?_
    refine s_off rfl (g_off 12 (by kernel_rfl) rfl rfl) ?_
    refine s_off rfl (g_off 12 (by kernel_rfl) rfl rfl) ?_
    refine s_run rfl (g_on 7 (by kernel_rfl) rfl) (r_pkF (v := .bool _) rfl rfl) ?_
    refine s_run rfl rfl (r_pkF (v := .bool _) rfl rfl) ?_
    refine k_nc ?_
    refine k_f rfl ?_
    refine k_skip ?_
    refine c_norm ?_
    refine k_sg ?_
    refine s_run rfl rfl (rmp rfl) ?_
    refine s_run rfl rfl (r_nc rfl) ?_
    refine s_run rfl rfl (r_fa0 rfl fo114_6) ?_
    refine s_run rfl rfl (r_lo H 0 rfl rfl rfl ag3) ?_
    refine s_run rfl rfl (r_sub rfl rfl rfl) ?_
    refine s_run rfl rfl (r_nc rfl) ?_
    refine s_run rfl rfl (r_fa0 rfl fo114_6) ?_
    refine s_st (u := .int _ _) H 0 rfl rfl rfl rfl rfl rfl sz3 ?_
    clear H; intro _ H; simp only [jA, jB, jC, jD, jE, jF, jG, jH, jI, jJ, jK, Nat.reduceAdd] at H
    refine k_nc ?_
    refine k_sg ?_
    refine s_run rfl rfl (rmp rfl) ?_
    refine s_run rfl rfl (r_nc rfl) ?_
    refine s_run rfl rfl (r_fa0 rfl fo114_5) ?_
    refine s_run rfl rfl (r_lo H 0 rfl rfl rfl ag3) ?_
    refine s_run rfl rfl (r_add rfl rfl rfl) ?_
    refine s_run rfl rfl (r_nc rfl) ?_
    refine s_run rfl rfl (r_fa0 rfl fo114_5) ?_
    refine s_st (u := .int _ _) H 0 rfl rfl rfl rfl rfl rfl sz3 ?_
    clear H; intro _ H; simp only [jA, jB, jC, jD, jE, jF, jG, jH, jI, jJ, jK, Nat.reduceAdd] at H
    refine k_nc ?_
    refine k_sg ?_
    refine s_run rfl rfl (rab rfl) ?_
    refine k_nc ?_
    refine k_ret ?_
    refine fin1r (v := .bool _) rfl rfl ?_
    refine ⟨rfl, ?_⟩
    unfold devL devCells Nv.stepped
    rw [h1, h3]
    exact H
end Go.Proofs.Ytmekhdclnhhhbaa
end

section
namespace Go.Proofs.Ytmekhdclnhhhbaa
open Go.RowKit
/-- the rows have room -/
structure GOk (g : Geo) (m : Nat) : Prop where
 l : 8 * m ≤ g.cl ∧ g.cl ≤ 9223372036854775807
 c : 8 * m ≤ g.cc ∧ g.cc ≤ 9223372036854775807
 f : 8 * m ≤ g.cf ∧ g.cf ≤ 9223372036854775807
 d : m ≤ g.cd ∧ g.cd ≤ 9223372036854775807
 p : m ≤ g.cp ∧ g.cp ≤ 9223372036854775807
theorem nPart (b c i : Nat) (l : Nat) (P : Option Addr) (w : World) (h : 8 * i + 8 ≤ c ∧ c ≤ 9223372036854775807) :
  Calls Try.prog 77 [.pointer P, .slice (some ⟨b, 0, none⟩) l c, .int .i64 i].toArray w fun e w' => e = .returned (.slice (some ⟨b, 8 * i, none⟩) 8 (c - 8 * i)) ∧ Only [] w w' := by
 have H := Heap.nil w
 refine k_in (N := 14) Try.func77 rfl rfl rfl ?_
 refine k_sg ?_
 refine s_run rfl rfl (ras rfl) ?_
 refine k_nc ?_
 refine k_sg ?_
 refine s_run rfl rfl (rms rfl) ?_
 refine s_run rfl rfl (rmi rfl) ?_
 refine s_run rfl rfl (r_mul rfl rfl (wI (by omega))) ?_
 refine s_run rfl rfl (rmi rfl) ?_
 refine s_run rfl rfl (r_add rfl rfl (wI (by omega))) ?_
 refine s_run rfl rfl (r_mul rfl rfl (wI (by omega))) ?_
 refine s_run rfl rfl (r_sl (i := 8 * i) (j := 8 * i + 8) rfl rfl rfl (by omega) (by omega) (by omega) Try.underlying25 sz22) ?_
 refine s_run rfl rfl (ras rfl) ?_
 refine k_nc ?_
 refine k_ret ?_
 refine fin1r (v := .slice _ _ _) rfl rfl ?_
 refine ⟨?_, H.only⟩
 have h1 : ¬ c = 8 * i := by omega
 rw [if_neg h1, show 8 * i + 8 - 8 * i = 8 from by omega, Nat.mul_one, Nat.zero_add]
theorem nStore (g : Geo) (d : Nv.D) (m : Nat) (a v : Int) (w : World) (hE : Ents (devL g d) w) (ho : Nv.Ok d m) (hm : m ≤ 100000) :
  Calls Try.prog 30 [ptr g.p, .int .i64 a, .int .u64 v].toArray w fun e w' => e = .returned (.int .i64 (Nv.store d m a v).2) ∧ Heap w (ids (devL g d)) (devL g (Nv.store d m a v).1) w' := by
 have H0 := Heap.start hE
 have hc := ho.hc
 by_cases hin : 0 ≤ a ∧ a < 8 * (m : Int)
 ·by_cases hs : Nv.stops d = true
  ·have er : Nv.store d m a v = (Nv.killed d, 3) := by rw [Nv.store, if_pos hin, if_pos hs]
   rw [er]
   generalize hF : ids (devL g d) = F at H0 ⊢
   have H := H0
   unfold devL devCells at H
   refine k_in (N := 37) Try.func30 rfl rfl rfl ?_
   refine k_sg ?_
   refine s_run rfl rfl (rai rfl) ?_
   refine k_nc ?_
   refine k_seq ?_
   refine k_b ?_
   refine k_sg ?_
   refine s_run rfl rfl (rmi rfl) ?_
   refine s_run rfl rfl (r_lssF rfl rfl (by omega)) ?_
   refine s_run rfl rfl (rmb rfl) ?_
   refine s_run rfl (g_on 10 (by kernel_rfl) rfl) (rmi rfl) ?_
   refine s_run rfl (g_on 10 (by kernel_rfl) rfl) (rmp rfl) ?_
   refine s_run rfl (g_on 10 (by kernel_rfl) rfl) (r_nc rfl) ?_
   refine s_run rfl (g_on 10 (by kernel_rfl) rfl) (r_fa0 rfl fo114_1) ?_
   refine s_run rfl (g_on 10 (by kernel_rfl) rfl) (r_lo H 0 rfl rfl rfl ag25) ?_
   refine s_run rfl (g_on 10 (by kernel_rfl) rfl) (r_len rfl Try.underlying25) ?_
   refine s_run rfl (g_on 10 (by kernel_rfl) rfl) (r_geqF rfl rfl (by omega)) ?_
   refine s_run rfl rfl (r_pkF (v := .bool _) rfl rfl) ?_
   refine s_run rfl rfl (rab rfl) ?_
   refine k_nc ?_
   refine k_f rfl ?_
   refine k_sg ?_
   refine s_run rfl rfl (rmp rfl) ?_
   refine s_call rfl (nStep_no g d _ H0.ents hs) (ca70 rfl) ?_
   rintro e W1 ⟨rfl, H'⟩
   refine ⟨_, rfl, ?_⟩
   have H := H0.whole H'
   refine s_run rfl rfl (r_notF rfl) ?_
   refine s_run rfl rfl (rab rfl) ?_
   refine k_nc ?_
   refine k_t rfl ?_
   refine k_sg ?_
   refine s_run rfl rfl (rai rfl) ?_
   refine k_nc ?_
   refine k_ret ?_
   refine b_ret ?_
   refine c_ret ?_
   refine fin1r (v := .int _ _) rfl rfl ?_
   exact ⟨rfl, H⟩
  ·have hs : Nv.stops d = false := by simpa using hs
   have er : Nv.store d m a v = (Nv.put (Nv.stepped d) a.toNat v, 0) := by rw [Nv.store, if_pos hin, if_neg (by simp [hs])]
   rw [er]
   obtain ⟨i, rfl⟩ : ∃ i : Nat, a = (i : Int) := ⟨a.toNat, by omega⟩
   rw [Int.toNat_natCast]
   have hd := ho.hd
   generalize hF : ids (devL g d) = F at H0 ⊢
   have H := H0
   unfold devL devCells at H
   refine k_in (N := 37) Try.func30 rfl rfl rfl ?_
   refine k_sg ?_
   refine s_run rfl rfl (rai rfl) ?_
   refine k_nc ?_
   refine k_seq ?_
   refine k_b ?_
   refine k_sg ?_
   refine s_run rfl rfl (rmi rfl) ?_
   refine s_run rfl rfl (r_lssF rfl rfl (by omega)) ?_
   refine s_run rfl rfl (rmb rfl) ?_
   refine s_run rfl (g_on 10 (by kernel_rfl) rfl) (rmi rfl) ?_
   refine s_run rfl (g_on 10 (by kernel_rfl) rfl) (rmp rfl) ?_
   refine s_run rfl (g_on 10 (by kernel_rfl) rfl) (r_nc rfl) ?_
   refine s_run rfl (g_on 10 (by kernel_rfl) rfl) (r_fa0 rfl fo114_1) ?_
   refine s_run rfl (g_on 10 (by kernel_rfl) rfl) (r_lo H 0 rfl rfl rfl ag25) ?_
   refine s_run rfl (g_on 10 (by kernel_rfl) rfl) (r_len rfl Try.underlying25) ?_
   refine s_run rfl (g_on 10 (by kernel_rfl) rfl) (r_geqF rfl rfl (by omega)) ?_
   refine s_run rfl rfl (r_pkF (v := .bool _) rfl rfl) ?_
   refine s_run rfl rfl (rab rfl) ?_
   refine k_nc ?_
   refine k_f rfl ?_
   refine k_sg ?_
   refine s_run rfl rfl (rmp rfl) ?_
   refine s_call rfl (nStep_yes g d _ H0.ents hs) (ca70 rfl) ?_
   rintro e W1 ⟨rfl, H'⟩
   refine ⟨_, rfl, ?_⟩
   have H := H0.whole H'; unfold devL devCells Nv.stepped at H; simp only at H
   refine s_run rfl rfl (r_notT rfl) ?_
   refine s_run rfl rfl (rab rfl) ?_
   refine k_nc ?_
   refine k_f rfl ?_
   refine k_skip ?_
   refine b_norm ?_
   refine c_norm ?_
   refine k_sg ?_
   refine s_run rfl rfl (rmp rfl) ?_
   refine s_run rfl rfl (r_nc rfl) ?_
   refine s_run rfl rfl (r_fa0 rfl fo114_1) ?_
   refine s_run rfl rfl (r_lo H 0 rfl rfl rfl ag25) ?_
   refine s_run rfl rfl (rmi rfl) ?_
   refine s_run rfl rfl (rmi rfl) ?_
   refine s_run rfl rfl (r_ix1 rfl rfl rfl (by omega) Try.underlying25 sz22) ?_
   refine s_sv (u := .int _ _) H 2 rfl rfl rfl rfl rfl (by omega) (fun _ => rfl) sz22 ?_
   clear H; intro _ H; simp only [jA, jB, jC, jD, jE, jF, jG, jH, jI, jJ, jK, Nat.reduceAdd] at H
   refine k_nc ?_
   refine k_sg ?_
   refine s_run rfl rfl (rmp rfl) ?_
   refine s_run rfl rfl (r_nc rfl) ?_
   refine s_run rfl rfl (r_fa0 rfl fo114_3) ?_
   refine s_run rfl rfl (r_lo H 0 rfl rfl rfl ag53) ?_
   refine s_run rfl rfl (rmi rfl) ?_
   refine s_run rfl rfl (r_quo rfl rfl (by omega) (wI (by omega))) ?_
   refine s_run rfl rfl (r_ix1 (i := i / 8) rfl rfl (by omega) (by omega) Try.underlying53 sz4) ?_
   refine s_sv (u := .bool _) H 4 rfl rfl rfl rfl rfl (by omega) (fun _ => rfl) sz4 ?_
   clear H; intro _ H; simp only [jA, jB, jC, jD, jE, jF, jG, jH, jI, jJ, jK, Nat.reduceAdd] at H
   refine k_nc ?_
   refine k_sg ?_
   refine s_run rfl rfl (rai rfl) ?_
   refine k_nc ?_
   refine k_ret ?_
   refine fin1r (v := .int _ _) rfl rfl ?_
   refine ⟨rfl, ?_⟩
   unfold devL devCells Nv.put Nv.stepped
   simpa using H
 ·have er : Nv.store d m a v = (d, 2) := by rw [Nv.store, if_neg hin]
  rw [er]
  generalize hF : ids (devL g d) = F at H0 ⊢
  have H := H0
  unfold devL devCells at H
  by_cases h1 : a < 0
  ·refine k_in (N := 37) Try.func30 rfl rfl rfl ?_
   refine k_sg ?_
   refine s_run rfl rfl (rai rfl) ?_
   refine k_nc ?_
   refine k_seq ?_
   refine k_b ?_
   refine k_sg ?_
   refine s_run rfl rfl (rmi rfl) ?_
   refine s_run rfl rfl (r_lssT rfl rfl (by omega)) ?_
   refine s_run rfl rfl (rmb rfl) ?_
   refine s_off rfl (g_off 10 (by kernel_rfl) rfl rfl) ?_
   refine s_off rfl (g_off 10 (by kernel_rfl) rfl rfl) ?_
   refine s_off rfl (g_off 10 (by kernel_rfl) rfl rfl) ?_
   refine s_off rfl (g_off 10 (by kernel_rfl) rfl rfl) ?_
   refine s_off rfl (g_off 10 (by kernel_rfl) rfl rfl) ?_
   refine s_off rfl (g_off 10 (by kernel_rfl) rfl rfl) ?_
   refine s_off rfl (g_off 10 (by kernel_rfl) rfl rfl) ?_
   refine s_run rfl rfl (r_pkT (v := .bool _) rfl rfl) ?_
   refine s_run rfl rfl (rab rfl) ?_
   refine k_nc ?_
   refine k_t rfl ?_
   refine k_sg ?_
   refine s_run rfl rfl (rai rfl) ?_
   refine k_nc ?_
   refine k_ret ?_
   refine b_ret ?_
   refine c_ret ?_
   refine fin1r (v := .int _ _) rfl rfl ?_
   exact ⟨rfl, H⟩
  ·refine k_in (N := 37) Try.func30 rfl rfl rfl ?_
   refine k_sg ?_
   refine s_run rfl rfl (rai rfl) ?_
   refine k_nc ?_
   refine k_seq ?_
   refine k_b ?_
   refine k_sg ?_
   refine s_run rfl rfl (rmi rfl) ?_
   refine s_run rfl rfl (r_lssF rfl rfl (by omega)) ?_
   refine s_run rfl rfl (rmb rfl) ?_
   refine s_run rfl (g_on 10 (by kernel_rfl) rfl) (rmi rfl) ?_
   refine s_run rfl (g_on 10 (by kernel_rfl) rfl) (rmp rfl) ?_
   refine s_run rfl (g_on 10 (by kernel_rfl) rfl) (r_nc rfl) ?_
   refine s_run rfl (g_on 10 (by kernel_rfl) rfl) (r_fa0 rfl fo114_1) ?_
   refine s_run rfl (g_on 10 (by kernel_rfl) rfl) (r_lo H 0 rfl rfl rfl ag25) ?_
   refine s_run rfl (g_on 10 (by kernel_rfl) rfl) (r_len rfl Try.underlying25) ?_
   refine s_run rfl (g_on 10 (by kernel_rfl) rfl) (r_geqT rfl rfl (by omega)) ?_
   refine s_run rfl rfl (r_pkF (v := .bool _) rfl rfl) ?_
   refine s_run rfl rfl (rab rfl) ?_
   refine k_nc ?_
   refine k_t rfl ?_
   refine k_sg ?_
   refine s_run rfl rfl (rai rfl) ?_
   refine k_nc ?_
   refine k_ret ?_
   refine b_ret ?_
   refine c_ret ?_
   refine fin1r (v := .int _ _) rfl rfl ?_
   exact ⟨rfl, H⟩
end Go.Proofs.Ytmekhdclnhhhbaa
end

section
namespace Go.Proofs.Ytmekhdclnhhhbaa
open Go.RowKit
theorem nGet (g : Geo) (d : Nv.D) (a : Int) (w : World) (hE : Ents (devL g d) w) :
  Calls Try.prog 25 [ptr g.p, .int .i64 a].toArray w fun e w' => e = .returned (.int .u64 (Nv.get d.cache a)) ∧ Only [] w w' := by
 have H := Heap.start hE
 generalize hF : ids (devL g d) = F at H
 unfold devL devCells at H
 unfold Nv.get
 by_cases hin : 0 ≤ a ∧ a < (d.cache.length : Int)
 ·rw [if_pos hin]
  obtain ⟨i, rfl⟩ : ∃ i : Nat, a = (i : Int) := ⟨a.toNat, by omega⟩
  rw [Int.toNat_natCast]
  refine k_in (N := 23) Try.func25 rfl rfl rfl ?_
  refine k_sg ?_
  refine s_run rfl rfl (rai rfl) ?_
  refine k_nc ?_
  refine k_seq ?_
  refine k_sg ?_
  refine s_run rfl rfl (rmi rfl) ?_
  refine s_run rfl rfl (r_lssF rfl rfl (by omega)) ?_
  refine s_run rfl rfl (rmb rfl) ?_
  refine s_run rfl (g_on 7 (by kernel_rfl) rfl) (rmi rfl) ?_
  refine s_run rfl (g_on 7 (by kernel_rfl) rfl) (rmp rfl) ?_
  refine s_run rfl (g_on 7 (by kernel_rfl) rfl) (r_nc rfl) ?_
  refine s_run rfl (g_on 7 (by kernel_rfl) rfl) (r_fa0 rfl fo114_1) ?_
  refine s_run rfl (g_on 7 (by kernel_rfl) rfl) (r_lo H 0 rfl rfl rfl ag25) ?_
  refine s_run rfl (g_on 7 (by kernel_rfl) rfl) (r_len rfl Try.underlying25) ?_
  refine s_run rfl (g_on 7 (by kernel_rfl) rfl) (r_geqF rfl rfl (by omega)) ?_
  refine s_run rfl rfl (r_pkF (v := .bool _) rfl rfl) ?_
  refine k_nc ?_
  refine k_f rfl ?_
  refine k_skip ?_
  refine c_norm ?_
  refine k_sg ?_
  refine s_run rfl rfl (rmp rfl) ?_
  refine s_run rfl rfl (r_nc rfl) ?_
  refine s_run rfl rfl (r_fa0 rfl fo114_1) ?_
  refine s_run rfl rfl (r_lo H 0 rfl rfl rfl ag25) ?_
  refine s_run rfl rfl (rmi rfl) ?_
  refine s_run rfl rfl (r_ix1 rfl rfl rfl (by omega) Try.underlying25 sz22) ?_
  refine s_run rfl rfl (r_lv H 2 rfl rfl (getE (by omega)) ag22) ?_
  refine s_run rfl rfl (rai rfl) ?_
  refine k_nc ?_
  refine k_ret ?_
  refine fin1r (v := .int _ _) rfl rfl ?_
  exact ⟨rfl, Only.refl _ _⟩
 ·rw [if_neg hin]
  by_cases h1 : a < 0
  ·refine k_in (N := 23) Try.func25 rfl rfl rfl ?_
   refine k_sg ?_
   refine s_run rfl rfl (rai rfl) ?_
   refine k_nc ?_
   refine k_seq ?_
   refine k_sg ?_
   refine s_run rfl rfl (rmi rfl) ?_
   refine s_run rfl rfl (r_lssT rfl rfl (by omega)) ?_
   refine s_run rfl rfl (rmb rfl) ?_
   refine s_off rfl (g_off 7 (by kernel_rfl) rfl rfl) ?_
   refine s_off rfl (g_off 7 (by kernel_rfl) rfl rfl) ?_
   refine s_off rfl (g_off 7 (by kernel_rfl) rfl rfl) ?_
   refine s_off rfl (g_off 7 (by kernel_rfl) rfl rfl) ?_
   refine s_off rfl (g_off 7 (by kernel_rfl) rfl rfl) ?_
   refine s_off rfl (g_off 7 (by kernel_rfl) rfl rfl) ?_
   refine s_off rfl (g_off 7 (by kernel_rfl) rfl rfl) ?_
   refine s_run rfl rfl (r_pkT (v := .bool _) rfl rfl) ?_
   refine k_nc ?_
   refine k_t rfl ?_
   refine k_sg ?_
   refine s_run rfl rfl (rai rfl) ?_
   refine k_nc ?_
   refine k_ret ?_
   refine c_ret ?_
   refine fin1r (v := .int _ _) rfl rfl ?_
   exact ⟨rfl, Only.refl _ _⟩
  ·refine k_in (N := 23) Try.func25 rfl rfl rfl ?_
   refine k_sg ?_
   refine s_run rfl rfl (rai rfl) ?_
   refine k_nc ?_
   refine k_seq ?_
   refine k_sg ?_
   refine s_run rfl rfl (rmi rfl) ?_
   refine s_run rfl rfl (r_lssF rfl rfl (by omega)) ?_
   refine s_run rfl rfl (rmb rfl) ?_
   refine s_run rfl (g_on 7 (by kernel_rfl) rfl) (rmi rfl) ?_
   refine s_run rfl (g_on 7 (by kernel_rfl) rfl) (rmp rfl) ?_
   refine s_run rfl (g_on 7 (by kernel_rfl) rfl) (r_nc rfl) ?_
   refine s_run rfl (g_on 7 (by kernel_rfl) rfl) (r_fa0 rfl fo114_1) ?_
   refine s_run rfl (g_on 7 (by kernel_rfl) rfl) (r_lo H 0 rfl rfl rfl ag25) ?_
   refine s_run rfl (g_on 7 (by kernel_rfl) rfl) (r_len rfl Try.underlying25) ?_
   refine s_run rfl (g_on 7 (by kernel_rfl) rfl) (r_geqT rfl rfl (by omega)) ?_
   refine s_run rfl rfl (r_pkF (v := .bool _) rfl rfl) ?_
   refine k_nc ?_
   refine k_t rfl ?_
   refine k_sg ?_
   refine s_run rfl rfl (rai rfl) ?_
   refine k_nc ?_
   refine k_ret ?_
   refine c_ret ?_
   refine fin1r (v := .int _ _) rfl rfl ?_
   exact ⟨rfl, Only.refl _ _⟩
theorem nLasting (g : Geo) (d : Nv.D) (a : Int) (w : World) (hE : Ents (devL g d) w) :
  Calls Try.prog 26 [ptr g.p, .int .i64 a].toArray w fun e w' => e = .returned (.int .u64 (Nv.get d.last a)) ∧ Only [] w w' := by
 have H := Heap.start hE
 generalize hF : ids (devL g d) = F at H
 unfold devL devCells at H
 unfold Nv.get
 by_cases hin : 0 ≤ a ∧ a < (d.last.length : Int)
 ·rw [if_pos hin]
  obtain ⟨i, rfl⟩ : ∃ i : Nat, a = (i : Int) := ⟨a.toNat, by omega⟩
  rw [Int.toNat_natCast]
  refine k_in (N := 23) Try.func26 rfl rfl rfl ?_
  refine k_sg ?_
  refine s_run rfl rfl (rai rfl) ?_
  refine k_nc ?_
  refine k_seq ?_
  refine k_sg ?_
  refine s_run rfl rfl (rmi rfl) ?_
  refine s_run rfl rfl (r_lssF rfl rfl (by omega)) ?_
  refine s_run rfl rfl (rmb rfl) ?_
  refine s_run rfl (g_on 7 (by kernel_rfl) rfl) (rmi rfl) ?_
  refine s_run rfl (g_on 7 (by kernel_rfl) rfl) (rmp rfl) ?_
  refine s_run rfl (g_on 7 (by kernel_rfl) rfl) (r_nc rfl) ?_
  refine s_run rfl (g_on 7 (by kernel_rfl) rfl) (r_fa0 rfl fo114_0) ?_
  refine s_run rfl (g_on 7 (by kernel_rfl) rfl) (r_lo H 0 rfl rfl rfl ag25) ?_
  refine s_run rfl (g_on 7 (by kernel_rfl) rfl) (r_len rfl Try.underlying25) ?_
  refine s_run rfl (g_on 7 (by kernel_rfl) rfl) (r_geqF rfl rfl (by omega)) ?_
  refine s_run rfl rfl (r_pkF (v := .bool _) rfl rfl) ?_
  refine k_nc ?_
  refine k_f rfl ?_
  refine k_skip ?_
  refine c_norm ?_
  refine k_sg ?_
  refine s_run rfl rfl (rmp rfl) ?_
  refine s_run rfl rfl (r_nc rfl) ?_
  refine s_run rfl rfl (r_fa0 rfl fo114_0) ?_
  refine s_run rfl rfl (r_lo H 0 rfl rfl rfl ag25) ?_
  refine s_run rfl rfl (rmi rfl) ?_
  refine s_run rfl rfl (r_ix1 rfl rfl rfl (by omega) Try.underlying25 sz22) ?_
  refine s_run rfl rfl (r_lv H 1 rfl rfl (getE (by omega)) ag22) ?_
  refine s_run rfl rfl (rai rfl) ?_
  refine k_nc ?_
  refine k_ret ?_
  refine fin1r (v := .int _ _) rfl rfl ?_
  exact ⟨rfl, Only.refl _ _⟩
 ·rw [if_neg hin]
  by_cases h1 : a < 0
  ·refine k_in (N := 23) Try.func26 rfl rfl rfl ?_
   refine k_sg ?_
   refine s_run rfl rfl (rai rfl) ?_
   refine k_nc ?_
   refine k_seq ?_
   refine k_sg ?_
   refine s_run rfl rfl (rmi rfl) ?_
   refine s_run rfl rfl (r_lssT rfl rfl (by omega)) ?_
   refine s_run rfl rfl (rmb rfl) ?_
   refine s_off rfl (g_off 7 (by kernel_rfl) rfl rfl) ?_
   refine s_off rfl (g_off 7 (by kernel_rfl) rfl rfl) ?_
   refine s_off rfl (g_off 7 (by kernel_rfl) rfl rfl) ?_
   refine s_off rfl (g_off 7 (by kernel_rfl) rfl rfl) ?_
   refine s_off rfl (g_off 7 (by kernel_rfl) rfl rfl) ?_
   refine s_off rfl (g_off 7 (by kernel_rfl) rfl rfl) ?_
   refine s_off rfl (g_off 7 (by kernel_rfl) rfl rfl) ?_
   refine s_run rfl rfl (r_pkT (v := .bool _) rfl rfl) ?_
   refine k_nc ?_
   refine k_t rfl ?_
   refine k_sg ?_
   refine s_run rfl rfl (rai rfl) ?_
   refine k_nc ?_
   refine k_ret ?_
   refine c_ret ?_
   refine fin1r (v := .int _ _) rfl rfl ?_
   exact ⟨rfl, Only.refl _ _⟩
  ·refine k_in (N := 23) Try.func26 rfl rfl rfl ?_
   refine k_sg ?_
   refine s_run rfl rfl (rai rfl) ?_
   refine k_nc ?_
   refine k_seq ?_
   refine k_sg ?_
   refine s_run rfl rfl (rmi rfl) ?_
   refine s_run rfl rfl (r_lssF rfl rfl (by omega)) ?_
   refine s_run rfl rfl (rmb rfl) ?_
   refine s_run rfl (g_on 7 (by kernel_rfl) rfl) (rmi rfl) ?_
   refine s_run rfl (g_on 7 (by kernel_rfl) rfl) (rmp rfl) ?_
   refine s_run rfl (g_on 7 (by kernel_rfl) rfl) (r_nc rfl) ?_
   refine s_run rfl (g_on 7 (by kernel_rfl) rfl) (r_fa0 rfl fo114_0) ?_
   refine s_run rfl (g_on 7 (by kernel_rfl) rfl) (r_lo H 0 rfl rfl rfl ag25) ?_
   refine s_run rfl (g_on 7 (by kernel_rfl) rfl) (r_len rfl Try.underlying25) ?_
   refine s_run rfl (g_on 7 (by kernel_rfl) rfl) (r_geqT rfl rfl (by omega)) ?_
   refine s_run rfl rfl (r_pkF (v := .bool _) rfl rfl) ?_
   refine k_nc ?_
   refine k_t rfl ?_
   refine k_sg ?_
   refine s_run rfl rfl (rai rfl) ?_
   refine k_nc ?_
   refine k_ret ?_
   refine c_ret ?_
   refine fin1r (v := .int _ _) rfl rfl ?_
   exact ⟨rfl, Only.refl _ _⟩
theorem nLen (g : Geo) (d : Nv.D) (w : World) (hE : Ents (devL g d) w) :
  Calls Try.prog 24 [ptr g.p].toArray w fun e w' => e = .returned (.int .i64 d.cache.length) ∧ Only [] w w' := by
 have H := Heap.start hE
 generalize hF : ids (devL g d) = F at H
 unfold devL devCells at H
 refine k_in (N := 8) Try.func24 rfl rfl rfl ?_
 refine k_sg ?_
 refine s_run rfl rfl (rai rfl) ?_
 refine k_nc ?_
 refine k_sg ?_
 refine s_run rfl rfl (rmp rfl) ?_
 refine s_run rfl rfl (r_nc rfl) ?_
 refine s_run rfl rfl (r_fa0 rfl fo114_1) ?_
 refine s_run rfl rfl (r_lo H 0 rfl rfl rfl ag25) ?_
 refine s_run rfl rfl (r_len rfl Try.underlying25) ?_
 refine s_run rfl rfl (rai rfl) ?_
 refine k_nc ?_
 refine k_ret ?_
 refine fin1r (v := .int _ _) rfl rfl ?_
 exact ⟨rfl, Only.refl _ _⟩
theorem nLines (g : Geo) (d : Nv.D) (w : World) (hE : Ents (devL g d) w) :
  Calls Try.prog 23 [ptr g.p].toArray w fun e w' => e = .returned (.int .i64 d.dirty.length) ∧ Only [] w w' := by
 have H := Heap.start hE
 generalize hF : ids (devL g d) = F at H
 unfold devL devCells at H
 refine k_in (N := 8) Try.func23 rfl rfl rfl ?_
 refine k_sg ?_
 refine s_run rfl rfl (rai rfl) ?_
 refine k_nc ?_
 refine k_sg ?_
 refine s_run rfl rfl (rmp rfl) ?_
 refine s_run rfl rfl (r_nc rfl) ?_
 refine s_run rfl rfl (r_fa0 rfl fo114_3) ?_
 refine s_run rfl rfl (r_lo H 0 rfl rfl rfl ag53) ?_
 refine s_run rfl rfl (r_len rfl Try.underlying53) ?_
 refine s_run rfl rfl (rai rfl) ?_
 refine k_nc ?_
 refine k_ret ?_
 refine fin1r (v := .int _ _) rfl rfl ?_
 exact ⟨rfl, Only.refl _ _⟩
theorem nSteps (g : Geo) (d : Nv.D) (w : World) (hE : Ents (devL g d) w) :
  Calls Try.prog 29 [ptr g.p].toArray w fun e w' => e = .returned (.int .i64 d.steps) ∧ Only [] w w' := by
 have H := Heap.start hE
 generalize hF : ids (devL g d) = F at H
 unfold devL devCells at H
 refine k_in (N := 7) Try.func29 rfl rfl rfl ?_
 refine k_sg ?_
 refine s_run rfl rfl (rai rfl) ?_
 refine k_nc ?_
 refine k_sg ?_
 refine s_run rfl rfl (rmp rfl) ?_
 refine s_run rfl rfl (r_nc rfl) ?_
 refine s_run rfl rfl (r_fa0 rfl fo114_5) ?_
 refine s_run rfl rfl (r_lo H 0 rfl rfl rfl ag3) ?_
 refine s_run rfl rfl (rai rfl) ?_
 refine k_nc ?_
 refine k_ret ?_
 refine fin1r (v := .int _ _) rfl rfl ?_
 exact ⟨rfl, Only.refl _ _⟩
theorem nDead (g : Geo) (d : Nv.D) (w : World) (hE : Ents (devL g d) w) :
  Calls Try.prog 28 [ptr g.p].toArray w fun e w' => e = .returned (.bool d.dead) ∧ Only [] w w' := by
 have H := Heap.start hE
 generalize hF : ids (devL g d) = F at H
 unfold devL devCells at H
 refine k_in (N := 7) Try.func28 rfl rfl rfl ?_
 refine k_sg ?_
 refine s_run rfl rfl (rab rfl) ?_
 refine k_nc ?_
 refine k_sg ?_
 refine s_run rfl rfl (rmp rfl) ?_
 refine s_run rfl rfl (r_nc rfl) ?_
 refine s_run rfl rfl (r_fa0 rfl fo114_8) ?_
 refine s_run rfl rfl (r_lo H 0 rfl rfl rfl ag4) ?_
 refine s_run rfl rfl (rab rfl) ?_
 refine k_nc ?_
 refine k_ret ?_
 refine fin1r (v := .bool _) rfl rfl ?_
 exact ⟨rfl, Only.refl _ _⟩
theorem nFlush (g : Geo) (d : Nv.D) (m : Nat) (a : Int) (w : World) (hE : Ents (devL g d) w) (ho : Nv.Ok d m) (hg : GOk g m) (hm : m ≤ 100000) :
  Calls Try.prog 49 [ptr g.p, .int .i64 a].toArray w fun e w' => e = .returned (.int .i64 (Nv.flush d m a).2) ∧ Heap w (ids (devL g d)) (devL g (Nv.flush d m a).1) w' := by
 have H0 := Heap.start hE
 have hd := ho.hd
 by_cases hin : 0 ≤ a ∧ a < (m : Int)
 ·by_cases hs : Nv.stops d = true
  ·have er : Nv.flush d m a = (Nv.killed d, 3) := by rw [Nv.flush, if_pos hin, if_pos hs]
   rw [er]
   generalize hF : ids (devL g d) = F at H0 ⊢
   have H := H0
   unfold devL devCells at H
   refine k_in (N := 49) Try.func49 rfl rfl rfl ?_
   refine k_sg ?_
   refine s_run rfl rfl (rai rfl) ?_
   refine k_nc ?_
   refine k_seq ?_
   refine k_b ?_
   refine k_sg ?_
   refine s_run rfl rfl (rmi rfl) ?_
   refine s_run rfl rfl (r_lssF rfl rfl (by omega)) ?_
   refine s_run rfl rfl (rmb rfl) ?_
   refine s_run rfl (g_on 8 (by kernel_rfl) rfl) (rmi rfl) ?_
   refine s_run rfl (g_on 8 (by kernel_rfl) rfl) (rmp rfl) ?_
   refine s_run rfl (g_on 8 (by kernel_rfl) rfl) (r_nc rfl) ?_
   refine s_run rfl (g_on 8 (by kernel_rfl) rfl) (r_fa0 rfl fo114_3) ?_
   refine s_run rfl (g_on 8 (by kernel_rfl) rfl) (r_lo H 0 rfl rfl rfl ag53) ?_
   refine s_run rfl (g_on 8 (by kernel_rfl) rfl) (r_len rfl Try.underlying53) ?_
   refine s_run rfl (g_on 8 (by kernel_rfl) rfl) (r_geqF rfl rfl (by omega)) ?_
   refine s_run rfl rfl (r_pkF (v := .bool _) rfl rfl) ?_
   refine s_run rfl rfl (rab rfl) ?_
   refine k_nc ?_
   refine k_f rfl ?_
   refine k_sg ?_
   refine s_run rfl rfl (rmp rfl) ?_
   refine s_call rfl (nStep_no g d _ H0.ents hs) (ca70 rfl) ?_
   rintro e W1 ⟨rfl, H'⟩
   refine ⟨_, rfl, ?_⟩
   have H := H0.whole H'
   refine s_run rfl rfl (r_notF rfl) ?_
   refine s_run rfl rfl (rab rfl) ?_
   refine k_nc ?_
   refine k_t rfl ?_
   refine k_sg ?_
   refine s_run rfl rfl (rai rfl) ?_
   refine k_nc ?_
   refine k_ret ?_
   refine b_ret ?_
   refine c_ret ?_
   refine fin1r (v := .int _ _) rfl rfl ?_
   exact ⟨rfl, H⟩
  ·have hs : Nv.stops d = false := by simpa using hs
   obtain ⟨i, rfl⟩ : ∃ i : Nat, a = (i : Int) := ⟨a.toNat, by omega⟩
   have er : Nv.flush d m i = (if d.dirty.getD i false = true then Nv.flushed (Nv.stepped d) i else Nv.stepped d, 0) := by rw [Nv.flush, if_pos hin, if_neg (by simp [hs]), Int.toNat_natCast]
   rw [er]
   have hp := ho.hp
   have hc := ho.hc
   have hf := ho.hf
   generalize hF : ids (devL g d) = F at H0 ⊢
   have H := H0
   unfold devL devCells at H
   by_cases hdi : d.dirty.getD i false = true
   ·have hdi' : d.dirty[i]? = some true := by rw [getE (by omega)]; exact congrArg some hdi
    rw [if_pos hdi]
    have hgc := hg.c
    have hgf := hg.f
    refine k_in (N := 49) Try.func49 rfl rfl rfl ?_
    refine k_sg ?_
    refine s_run rfl rfl (rai rfl) ?_
    refine k_nc ?_
    refine k_seq ?_
    refine k_b ?_
    refine k_sg ?_
    refine s_run rfl rfl (rmi rfl) ?_
    refine s_run rfl rfl (r_lssF rfl rfl (by omega)) ?_
    refine s_run rfl rfl (rmb rfl) ?_
    refine s_run rfl (g_on 8 (by kernel_rfl) rfl) (rmi rfl) ?_
    refine s_run rfl (g_on 8 (by kernel_rfl) rfl) (rmp rfl) ?_
    refine s_run rfl (g_on 8 (by kernel_rfl) rfl) (r_nc rfl) ?_
    refine s_run rfl (g_on 8 (by kernel_rfl) rfl) (r_fa0 rfl fo114_3) ?_
    refine s_run rfl (g_on 8 (by kernel_rfl) rfl) (r_lo H 0 rfl rfl rfl ag53) ?_
    refine s_run rfl (g_on 8 (by kernel_rfl) rfl) (r_len rfl Try.underlying53) ?_
    refine s_run rfl (g_on 8 (by kernel_rfl) rfl) (r_geqF rfl rfl (by omega)) ?_
    refine s_run rfl rfl (r_pkF (v := .bool _) rfl rfl) ?_
    refine s_run rfl rfl (rab rfl) ?_
    refine k_nc ?_
    refine k_f rfl ?_
    refine k_sg ?_
    refine s_run rfl rfl (rmp rfl) ?_
    refine s_call rfl (nStep_yes g d _ H0.ents hs) (ca70 rfl) ?_
    rintro e W1 ⟨rfl, H'⟩
    refine ⟨_, rfl, ?_⟩
    have H := H0.whole H'; unfold devL devCells Nv.stepped at H; simp only at H
    refine s_run rfl rfl (r_notT rfl) ?_
    refine s_run rfl rfl (rab rfl) ?_
    refine k_nc ?_
    refine k_f rfl ?_
    refine k_skip ?_
    refine b_norm ?_
    refine c_norm ?_
    refine k_seq ?_
    refine k_sg ?_
    refine s_run rfl rfl (rmp rfl) ?_
    refine s_run rfl rfl (r_nc rfl) ?_
    refine s_run rfl rfl (r_fa0 rfl fo114_3) ?_
    refine s_run rfl rfl (r_lo H 0 rfl rfl rfl ag53) ?_
    refine s_run rfl rfl (rmi rfl) ?_
    refine s_run rfl rfl (r_ix1 rfl rfl rfl (by omega) Try.underlying53 sz4) ?_
    refine s_run rfl rfl (r_lv H 4 rfl rfl (by assumption) ag4) ?_
    refine k_nc ?_
    refine k_t rfl ?_
    refine k_sg ?_
    refine s_run rfl rfl (rmp rfl) ?_
    refine s_run rfl rfl (r_nc rfl) ?_
    refine s_run rfl rfl (r_fa0 rfl fo114_4) ?_
    refine s_run rfl rfl (r_lo H 0 rfl rfl rfl ag53) ?_
    refine s_run rfl rfl (rmi rfl) ?_
    refine s_run rfl rfl (r_ix1 rfl rfl rfl (by omega) Try.underlying53 sz4) ?_
    refine s_sv (u := .bool _) H 5 rfl rfl rfl rfl rfl (by omega) (fun _ => rfl) sz4 ?_
    clear H; intro _ H; simp only [jA, jB, jC, jD, jE, jF, jG, jH, jI, jJ, jK, Nat.reduceAdd] at H
    refine k_nc ?_
    refine k_qt 14 mixed (by kernel_rfl) H rfl rfl ?_
    refine q_run rfl rfl (fun _ H => r_mv (v := .pointer _) rfl) ?_
    refine q_run rfl rfl (fun _ H => r_mv (v := .pointer _) rfl) ?_
    refine q_run rfl rfl (fun _ H => r_nc rfl) ?_
    refine q_run rfl rfl (fun _ H => r_fa0 rfl fo114_2) ?_
    refine q_run rfl rfl (fun _ H => r_lo H 0 rfl rfl rfl ag25) ?_
    refine q_run rfl rfl (fun _ H => r_mv (v := .int _ _) rfl) ?_
    refine q_call rfl rfl (fun _ H => nPart g.bf g.cf i _ _ _ (by omega)) (ca77 rfl) ?_
    refine q_run rfl rfl (fun _ H => r_mv (v := .pointer _) rfl) ?_
    refine q_run rfl rfl (fun _ H => r_mv (v := .pointer _) rfl) ?_
    refine q_run rfl rfl (fun _ H => r_nc rfl) ?_
    refine q_run rfl rfl (fun _ H => r_fa0 rfl fo114_1) ?_
    refine q_run rfl rfl (fun _ H => r_lo H 0 rfl rfl rfl ag25) ?_
    refine q_run rfl rfl (fun _ H => r_mv (v := .int _ _) rfl) ?_
    refine q_call rfl rfl (fun _ H => nPart g.bc g.cc i _ _ _ (by omega)) (ca77 rfl) ?_
    refine q_nil ?_
    intro _ H'; clear H; have H := H'; clear H'
    refine s_cp (enc := (Value.int .u64)) H 3 2 rfl rfl rfl rfl rfl (fun _ => rfl) (by omega) Try.underlying25 inf22 ?_
    clear H; intro _ H; simp only [jA, jB, jC, jD, jE, jF, jG, jH, jI, jJ, jK, Nat.reduceAdd] at H
    refine k_nc ?_
    refine k_sg ?_
    refine s_run rfl rfl (rai rfl) ?_
    refine k_nc ?_
    refine k_ret ?_
    refine fin1r (v := .int _ _) rfl rfl ?_
    refine ⟨rfl, ?_⟩
    unfold devL devCells Nv.flushed Nv.stepped
    have e : Nv.setPart d.fl i (Nv.part d.cache i) = d.fl.take (8 * i) ++ ((d.cache.drop (8 * i)).take 8 ++ d.fl.drop (8 * i + 8)) := by simp [Nv.setPart, Nv.part]
    have hl : (Nv.setPart d.fl i (Nv.part d.cache i)).length = d.fl.length := Nv.length_setPart (by omega) (Nv.length_part (by omega))
    rw [← e] at H
    simp only [hl, List.length_set]
    exact H
   ·have hdi' : d.dirty[i]? = some false := by
     rw [getE (by omega)]
     have : d.dirty.getD i default = false := by simpa using hdi
     rw [this]
    rw [if_neg hdi]
    refine k_in (N := 49) Try.func49 rfl rfl rfl ?_
    refine k_sg ?_
    refine s_run rfl rfl (rai rfl) ?_
    refine k_nc ?_
    refine k_seq ?_
    refine k_b ?_
    refine k_sg ?_
    refine s_run rfl rfl (rmi rfl) ?_
    refine s_run rfl rfl (r_lssF rfl rfl (by omega)) ?_
    refine s_run rfl rfl (rmb rfl) ?_
    refine s_run rfl (g_on 8 (by kernel_rfl) rfl) (rmi rfl) ?_
    refine s_run rfl (g_on 8 (by kernel_rfl) rfl) (rmp rfl) ?_
    refine s_run rfl (g_on 8 (by kernel_rfl) rfl) (r_nc rfl) ?_
    refine s_run rfl (g_on 8 (by kernel_rfl) rfl) (r_fa0 rfl fo114_3) ?_
    refine s_run rfl (g_on 8 (by kernel_rfl) rfl) (r_lo H 0 rfl rfl rfl ag53) ?_
    refine s_run rfl (g_on 8 (by kernel_rfl) rfl) (r_len rfl Try.underlying53) ?_
    refine s_run rfl (g_on 8 (by kernel_rfl) rfl) (r_geqF rfl rfl (by omega)) ?_
    refine s_run rfl rfl (r_pkF (v := .bool _) rfl rfl) ?_
    refine s_run rfl rfl (rab rfl) ?_
    refine k_nc ?_
    refine k_f rfl ?_
    refine k_sg ?_
    refine s_run rfl rfl (rmp rfl) ?_
    refine s_call rfl (nStep_yes g d _ H0.ents hs) (ca70 rfl) ?_
    rintro e W1 ⟨rfl, H'⟩
    refine ⟨_, rfl, ?_⟩
    have H := H0.whole H'; unfold devL devCells Nv.stepped at H; simp only at H
    refine s_run rfl rfl (r_notT rfl) ?_
    refine s_run rfl rfl (rab rfl) ?_
    refine k_nc ?_
    refine k_f rfl ?_
    refine k_skip ?_
    refine b_norm ?_
    refine c_norm ?_
    refine k_seq ?_
    refine k_sg ?_
    refine s_run rfl rfl (rmp rfl) ?_
    refine s_run rfl rfl (r_nc rfl) ?_
    refine s_run rfl rfl (r_fa0 rfl fo114_3) ?_
    refine s_run rfl rfl (r_lo H 0 rfl rfl rfl ag53) ?_
    refine s_run rfl rfl (rmi rfl) ?_
    refine s_run rfl rfl (r_ix1 rfl rfl rfl (by omega) Try.underlying53 sz4) ?_
    refine s_run rfl rfl (r_lv H 4 rfl rfl (by assumption) ag4) ?_
    refine k_nc ?_
    refine k_f rfl ?_
    refine k_skip ?_
    refine c_norm ?_
    refine k_sg ?_
    refine s_run rfl rfl (rai rfl) ?_
    refine k_nc ?_
    refine k_ret ?_
    refine fin1r (v := .int _ _) rfl rfl ?_
    refine ⟨rfl, ?_⟩
    unfold devL devCells Nv.stepped
    exact H
 ·have er : Nv.flush d m a = (d, 2) := by rw [Nv.flush, if_neg hin]
  rw [er]
  generalize hF : ids (devL g d) = F at H0 ⊢
  have H := H0
  unfold devL devCells at H
  by_cases h1 : a < 0
  ·refine k_in (N := 49) Try.func49 rfl rfl rfl ?_
   refine k_sg ?_
   refine s_run rfl rfl (rai rfl) ?_
   refine k_nc ?_
   refine k_seq ?_
   refine k_b ?_
   refine k_sg ?_
   refine s_run rfl rfl (rmi rfl) ?_
   refine s_run rfl rfl (r_lssT rfl rfl (by omega)) ?_
   refine s_run rfl rfl (rmb rfl) ?_
   refine s_off rfl (g_off 8 (by kernel_rfl) rfl rfl) ?_
   refine s_off rfl (g_off 8 (by kernel_rfl) rfl rfl) ?_
   refine s_off rfl (g_off 8 (by kernel_rfl) rfl rfl) ?_
   refine s_off rfl (g_off 8 (by kernel_rfl) rfl rfl) ?_
   refine s_off rfl (g_off 8 (by kernel_rfl) rfl rfl) ?_
   refine s_off rfl (g_off 8 (by kernel_rfl) rfl rfl) ?_
   refine s_off rfl (g_off 8 (by kernel_rfl) rfl rfl) ?_
   refine s_run rfl rfl (r_pkT (v := .bool _) rfl rfl) ?_
   refine s_run rfl rfl (rab rfl) ?_
   refine k_nc ?_
   refine k_t rfl ?_
   refine k_sg ?_
   refine s_run rfl rfl (rai rfl) ?_
   refine k_nc ?_
   refine k_ret ?_
   refine b_ret ?_
   refine c_ret ?_
   refine fin1r (v := .int _ _) rfl rfl ?_
   exact ⟨rfl, H⟩
  ·refine k_in (N := 49) Try.func49 rfl rfl rfl ?_
   refine k_sg ?_
   refine s_run rfl rfl (rai rfl) ?_
   refine k_nc ?_
   refine k_seq ?_
   refine k_b ?_
   refine k_sg ?_
   refine s_run rfl rfl (rmi rfl) ?_
   refine s_run rfl rfl (r_lssF rfl rfl (by omega)) ?_
   refine s_run rfl rfl (rmb rfl) ?_
   refine s_run rfl (g_on 8 (by kernel_rfl) rfl) (rmi rfl) ?_
   refine s_run rfl (g_on 8 (by kernel_rfl) rfl) (rmp rfl) ?_
   refine s_run rfl (g_on 8 (by kernel_rfl) rfl) (r_nc rfl) ?_
   refine s_run rfl (g_on 8 (by kernel_rfl) rfl) (r_fa0 rfl fo114_3) ?_
   refine s_run rfl (g_on 8 (by kernel_rfl) rfl) (r_lo H 0 rfl rfl rfl ag53) ?_
   refine s_run rfl (g_on 8 (by kernel_rfl) rfl) (r_len rfl Try.underlying53) ?_
   refine s_run rfl (g_on 8 (by kernel_rfl) rfl) (r_geqT rfl rfl (by omega)) ?_
   refine s_run rfl rfl (r_pkF (v := .bool _) rfl rfl) ?_
   refine s_run rfl rfl (rab rfl) ?_
   refine k_nc ?_
   refine k_t rfl ?_
   refine k_sg ?_
   refine s_run rfl rfl (rai rfl) ?_
   refine k_nc ?_
   refine k_ret ?_
   refine b_ret ?_
   refine c_ret ?_
   refine fin1r (v := .int _ _) rfl rfl ?_
   exact ⟨rfl, H⟩
end Go.Proofs.Ytmekhdclnhhhbaa
end

section
namespace Go.Proofs.Ytmekhdclnhhhbaa
open Go.RowKit
theorem all_upto {xs ys : List Int} {k : Nat} (h : ∀ i, i < k → xs.getD i default = ys.getD i default) (hx : xs.length = k) (hy : ys.length = k) : xs = ys := by
 apply List.ext_getElem (by omega)
 intro i h1 h2
 have := h i (by omega)
 simpa [List.getD_eq_getElem?_getD, List.getElem?_eq_getElem h1, List.getElem?_eq_getElem h2] using this
theorem nEqual (b o c b2 o2 c2 n : Nat) (xs ys : List Int) (w : World) (hx : Cells w b o xs .u64) (hy : Cells w b2 o2 ys .u64) (lx : xs.length = n) (ly : ys.length = n) (hn : n ≤ 1000000) :
  Calls Try.prog 78 [.slice (some ⟨b, o, none⟩) n c, .slice (some ⟨b2, o2, none⟩) n c2].toArray w fun e w' => e = .returned (.bool (Nv.same xs ys)) ∧ Only [] w w' := by
 have H := Heap.nil w
 refine k_in (N := 26) Try.func78 rfl rfl rfl ?_
 refine k_sg ?_
 refine s_run rfl rfl (rab rfl) ?_
 refine k_nc ?_
 refine k_seq ?_
 refine k_sg ?_
 refine s_run rfl rfl (rms rfl) ?_
 refine s_run rfl rfl (r_len rfl Try.underlying25) ?_
 refine s_run rfl rfl (rms rfl) ?_
 refine s_run rfl rfl (r_len rfl Try.underlying25) ?_
 refine s_run rfl rfl (r_neqF rfl rfl (by omega)) ?_
 refine k_nc ?_
 refine k_f rfl ?_
 refine k_skip ?_
 refine c_norm ?_
 refine k_seq ?_
 refine k_sg ?_
 refine s_run rfl rfl (rms rfl) ?_
 refine s_run rfl rfl (r_len rfl Try.underlying25) ?_
 refine s_run rfl rfl (rmi rfl) ?_
 refine k_nc ?_
 refine k_b ?_
 refine k_loop (fun m f W => ∃ k : Nat, k ≤ n ∧ m = n - k ∧ (∀ i, i < k → xs.getD i default = ys.getD i default) ∧ f 0 = .slice (some ⟨b, o, none⟩) n c ∧ f 1 = .slice (some ⟨b2, o2, none⟩) n c2 ∧ f 12 = .int .i64 n ∧ f 13 = .int .i64 k ∧ Heap w [] [] W) n ⟨0, by omega, by omega, by omega, rfl, rfl, rfl, rfl, H⟩ ?_
 clear H
 rintro m f W ⟨k, hk, rfl, hall, h0, h1, h2, h3, H⟩
 obtain ⟨f, rfl⟩ := live4 h0 h1 h2 h3
 clear h0 h1 h2 h3
 by_cases hlt : k < n
 ·have cx := hx k _ (getE (by omega))
  have cy := hy k _ (getE (by omega))
  by_cases he : xs.getD k default = ys.getD k default
  ·refine k_sg ?_
   refine s_run rfl rfl (r_lssT rfl rfl (by omega)) ?_
   refine k_nc ?_
   refine k_seq ?_
   refine k_t rfl ?_
   refine k_skip ?_
   refine c_norm ?_
   refine k_seq ?_
   refine k_b ?_
   refine k_sg ?_
   refine s_run rfl rfl (rmi rfl) ?_
   refine s_run rfl rfl (rai rfl) ?_
   refine k_nc ?_
   refine k_seq ?_
   refine k_q mixed (by kernel_rfl) H ?_
   refine q_run rfl rfl (fun _ H => r_mv (v := .slice _ _ _) rfl) ?_
   refine q_run rfl rfl (fun _ H => r_mv (v := .int _ _) rfl) ?_
   refine q_run rfl rfl (fun _ H => r_ix1o rfl rfl rfl (by omega) Try.underlying25 sz22) ?_
   refine q_run rfl rfl (fun _ H => r_lr H rfl cx (by simp) ag22) ?_
   refine q_run rfl rfl (fun _ H => r_mv (v := .slice _ _ _) rfl) ?_
   refine q_run rfl rfl (fun _ H => r_mv (v := .int _ _) rfl) ?_
   refine q_run rfl rfl (fun _ H => r_ix1o rfl rfl rfl (by omega) Try.underlying25 sz22) ?_
   refine q_run rfl rfl (fun _ H => r_lr H rfl cy (by simp) ag22) ?_
   refine q_run rfl rfl (fun _ H => r_neqF rfl rfl (by omega)) ?_
   refine q_nil ?_
   intro _ H'; clear H; have H := H'; clear H'
   refine c_norm ?_
   refine k_f rfl ?_
   refine k_skip ?_
   refine b_norm ?_
   refine c_norm ?_
   refine k_rg ?_
   refine s_run rfl rfl (r_add rfl rfl (wI (by omega))) ?_
   refine s_run rfl rfl (rmi rfl) ?_
   refine k_nil ?_
   refine c_round ?_
   refine ⟨_, _, ?_, rfl, k + 1, by omega, rfl, fun i hi => ?_, rfl, rfl, rfl, rfl, H⟩
   ·omega
   ·by_cases hik : i = k
    ·subst hik; exact he
    ·exact hall i (by omega)
  ·refine k_sg ?_
   refine s_run rfl rfl (r_lssT rfl rfl (by omega)) ?_
   refine k_nc ?_
   refine k_seq ?_
   refine k_t rfl ?_
   refine k_skip ?_
   refine c_norm ?_
   refine k_seq ?_
   refine k_b ?_
   refine k_sg ?_
   refine s_run rfl rfl (rmi rfl) ?_
   refine s_run rfl rfl (rai rfl) ?_
   refine k_nc ?_
   refine k_seq ?_
   refine k_q mixed (by kernel_rfl) H ?_
   refine q_run rfl rfl (fun _ H => r_mv (v := .slice _ _ _) rfl) ?_
   refine q_run rfl rfl (fun _ H => r_mv (v := .int _ _) rfl) ?_
   refine q_run rfl rfl (fun _ H => r_ix1o rfl rfl rfl (by omega) Try.underlying25 sz22) ?_
   refine q_run rfl rfl (fun _ H => r_lr H rfl cx (by simp) ag22) ?_
   refine q_run rfl rfl (fun _ H => r_mv (v := .slice _ _ _) rfl) ?_
   refine q_run rfl rfl (fun _ H => r_mv (v := .int _ _) rfl) ?_
   refine q_run rfl rfl (fun _ H => r_ix1o rfl rfl rfl (by omega) Try.underlying25 sz22) ?_
   refine q_run rfl rfl (fun _ H => r_lr H rfl cy (by simp) ag22) ?_
   refine q_run rfl rfl (fun _ H => r_neqT rfl rfl (by omega)) ?_
   refine q_nil ?_
   intro _ H'; clear H; have H := H'; clear H'
   refine c_norm ?_
   refine k_t rfl ?_
   refine k_sg ?_
   refine s_run rfl rfl (rab rfl) ?_
   refine k_nc ?_
   refine k_ret ?_
   refine b_ret ?_
   refine c_ret ?_
   refine c_ret ?_
   refine b_ret ?_
   refine c_ret ?_
   refine fin1r (v := .bool _) rfl rfl ?_
   refine ⟨?_, H.only⟩
   rw [Nv.same, decide_eq_false (fun h => he (by rw [h]))]
 ·obtain rfl : k = n := by omega
  refine k_sg ?_
  refine s_run rfl rfl (r_lssF rfl rfl (by omega)) ?_
  refine k_nc ?_
  refine k_seq ?_
  refine k_f rfl ?_
  refine k_exit ?_
  refine c_exit ?_
  refine c_exit ?_
  refine b_hit ?_
  refine c_norm ?_
  refine k_sg ?_
  refine s_run rfl rfl (rab rfl) ?_
  refine k_nc ?_
  refine k_ret ?_
  refine fin1r (v := .bool _) rfl rfl ?_
  refine ⟨?_, H.only⟩
  rw [Nv.same, decide_eq_true (all_upto hall lx ly)]
end Go.Proofs.Ytmekhdclnhhhbaa
end
