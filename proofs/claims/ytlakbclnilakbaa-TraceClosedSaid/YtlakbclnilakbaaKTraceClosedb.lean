/- Parts of the proof, one behind the other. -/
import Derived.WalkKit
import Derived.Laws.BitsAllLaws
import Derived.Test.YtlakbclnilakbaaKTraceCloseda
set_option linter.unusedSimpArgs false
set_option linter.unusedVariables false
set_option linter.unusedSectionVars false
section
namespace Go.Proofs.Ytlakbclnilakbaa
open Go.RowKit
theorem ag3 (W : World) : (isAgg 3).run Try.prog W = .ok false W := by kernel_rfl
theorem sz3 (W : World) : (Go.sizeOf 3).run Try.prog W = .ok 1 W := by kernel_rfl
theorem ag25 (W : World) : (isAgg 25).run Try.prog W = .ok false W := by kernel_rfl
theorem sz25 (W : World) : (Go.sizeOf 25).run Try.prog W = .ok 1 W := by kernel_rfl
theorem ag46 (W : World) : (isAgg 46).run Try.prog W = .ok false W := by kernel_rfl
theorem ag48 (W : World) : (isAgg 48).run Try.prog W = .ok true W := by kernel_rfl
theorem sz48 (W : World) : (Go.sizeOf 48).run Try.prog W = .ok 1 W := by kernel_rfl
theorem fo48_0 (a : Addr) (W : World) : (Instr.fieldAt 48 (.pointer (some a)) 0).run Try.prog W = .ok (.pointer (some (a.add 0))) W := by kernel_rfl
theorem ag49 (W : World) : (isAgg 49).run Try.prog W = .ok false W := by kernel_rfl
theorem ag61 (W : World) : (isAgg 61).run Try.prog W = .ok false W := by kernel_rfl
theorem sz61 (W : World) : (Go.sizeOf 61).run Try.prog W = .ok 1 W := by kernel_rfl
theorem sz62 (W : World) : (Go.sizeOf 62).run Try.prog W = .ok 1 W := by kernel_rfl
theorem ag64 (W : World) : (isAgg 64).run Try.prog W = .ok true W := by kernel_rfl
theorem sz64 (W : World) : (Go.sizeOf 64).run Try.prog W = .ok 8 W := by kernel_rfl
theorem fo64_0 (a : Addr) (W : World) : (Instr.fieldAt 64 (.pointer (some a)) 0).run Try.prog W = .ok (.pointer (some (a.add 0))) W := by kernel_rfl
theorem fo64_1 (a : Addr) (W : World) : (Instr.fieldAt 64 (.pointer (some a)) 1).run Try.prog W = .ok (.pointer (some (a.add 1))) W := by kernel_rfl
theorem fo64_2 (a : Addr) (W : World) : (Instr.fieldAt 64 (.pointer (some a)) 2).run Try.prog W = .ok (.pointer (some (a.add 2))) W := by kernel_rfl
theorem fo64_3 (a : Addr) (W : World) : (Instr.fieldAt 64 (.pointer (some a)) 3).run Try.prog W = .ok (.pointer (some (a.add 3))) W := by kernel_rfl
theorem fo64_4 (a : Addr) (W : World) : (Instr.fieldAt 64 (.pointer (some a)) 4).run Try.prog W = .ok (.pointer (some (a.add 4))) W := by kernel_rfl
theorem fo64_6 (a : Addr) (W : World) : (Instr.fieldAt 64 (.pointer (some a)) 6).run Try.prog W = .ok (.pointer (some (a.add 6))) W := by kernel_rfl
theorem ag66 (W : World) : (isAgg 66).run Try.prog W = .ok false W := by kernel_rfl
theorem ag78 (W : World) : (isAgg 78).run Try.prog W = .ok false W := by kernel_rfl
theorem sz78 (W : World) : (Go.sizeOf 78).run Try.prog W = .ok 1 W := by kernel_rfl
theorem ag100 (W : World) : (isAgg 100).run Try.prog W = .ok true W := by kernel_rfl
theorem sz100 (W : World) : (Go.sizeOf 100).run Try.prog W = .ok 2 W := by kernel_rfl
theorem fo100_0 (a : Addr) (W : World) : (Instr.fieldAt 100 (.pointer (some a)) 0).run Try.prog W = .ok (.pointer (some (a.add 0))) W := by kernel_rfl
theorem fo100_1 (a : Addr) (W : World) : (Instr.fieldAt 100 (.pointer (some a)) 1).run Try.prog W = .ok (.pointer (some (a.add 1))) W := by kernel_rfl
theorem ag102 (W : World) : (isAgg 102).run Try.prog W = .ok true W := by kernel_rfl
theorem sz102 (W : World) : (Go.sizeOf 102).run Try.prog W = .ok 3 W := by kernel_rfl
theorem fo102_0 (a : Addr) (W : World) : (Instr.fieldAt 102 (.pointer (some a)) 0).run Try.prog W = .ok (.pointer (some (a.add 0))) W := by kernel_rfl
theorem fo102_2 (a : Addr) (W : World) : (Instr.fieldAt 102 (.pointer (some a)) 2).run Try.prog W = .ok (.pointer (some (a.add 2))) W := by kernel_rfl
theorem ag105 (W : World) : (isAgg 105).run Try.prog W = .ok true W := by kernel_rfl
theorem sz105 (W : World) : (Go.sizeOf 105).run Try.prog W = .ok 2 W := by kernel_rfl
theorem fo105_0 (a : Addr) (W : World) : (Instr.fieldAt 105 (.pointer (some a)) 0).run Try.prog W = .ok (.pointer (some (a.add 0))) W := by kernel_rfl
theorem ag107 (W : World) : (isAgg 107).run Try.prog W = .ok false W := by kernel_rfl
theorem ag108 (W : World) : (isAgg 108).run Try.prog W = .ok false W := by kernel_rfl
theorem fo110_0 (a : Addr) (W : World) : (Instr.fieldAt 110 (.pointer (some a)) 0).run Try.prog W = .ok (.pointer (some (a.add 0))) W := by kernel_rfl
theorem fo110_1 (a : Addr) (W : World) : (Instr.fieldAt 110 (.pointer (some a)) 1).run Try.prog W = .ok (.pointer (some (a.add 1))) W := by kernel_rfl
theorem fo110_2 (a : Addr) (W : World) : (Instr.fieldAt 110 (.pointer (some a)) 2).run Try.prog W = .ok (.pointer (some (a.add 2))) W := by kernel_rfl
theorem fo110_3 (a : Addr) (W : World) : (Instr.fieldAt 110 (.pointer (some a)) 3).run Try.prog W = .ok (.pointer (some (a.add 3))) W := by kernel_rfl
theorem fo110_4 (a : Addr) (W : World) : (Instr.fieldAt 110 (.pointer (some a)) 4).run Try.prog W = .ok (.pointer (some (a.add 4))) W := by kernel_rfl
theorem fo110_5 (a : Addr) (W : World) : (Instr.fieldAt 110 (.pointer (some a)) 5).run Try.prog W = .ok (.pointer (some (a.add 5))) W := by kernel_rfl
theorem ag113 (W : World) : (isAgg 113).run Try.prog W = .ok true W := by kernel_rfl
theorem sz113 (W : World) : (Go.sizeOf 113).run Try.prog W = .ok 2 W := by kernel_rfl
theorem sz116 (W : World) : (Go.sizeOf 116).run Try.prog W = .ok 8 W := by kernel_rfl
theorem fo119_0 (a : Addr) (W : World) : (Instr.fieldAt 119 (.pointer (some a)) 0).run Try.prog W = .ok (.pointer (some (a.add 0))) W := by kernel_rfl
theorem fo119_1 (a : Addr) (W : World) : (Instr.fieldAt 119 (.pointer (some a)) 1).run Try.prog W = .ok (.pointer (some (a.add 1))) W := by kernel_rfl
theorem ag149 (W : World) : (isAgg 149).run Try.prog W = .ok true W := by kernel_rfl
theorem sz149 (W : World) : (Go.sizeOf 149).run Try.prog W = .ok 2 W := by kernel_rfl
theorem fo149_0 (a : Addr) (W : World) : (Instr.fieldAt 149 (.pointer (some a)) 0).run Try.prog W = .ok (.pointer (some (a.add 0))) W := by kernel_rfl
theorem sz173 (W : World) : (Go.sizeOf 173).run Try.prog W = .ok 2 W := by kernel_rfl
theorem inf3 : Inf Try.prog 3 (.int .i64 0) 1 8 := inf_of (by kernel_rfl)
theorem inf4 : Inf Try.prog 4 (.bool false) 1 1 := inf_of (by kernel_rfl)
theorem inf48 : Inf Try.prog 48 (.agg [.int .i64 0].toArray) 1 8 := inf_of (by kernel_rfl)
theorem inf64 : Inf Try.prog 64 (.agg [.slice none 0 0, .slice none 0 0, .slice none 0 0, .slice none 0 0, .slice none 0 0, .int .i64 0, .int .i64 0, .bool false].toArray) 8 144 := inf_of (by kernel_rfl)
theorem inf78 : Inf Try.prog 78 (.int .u64 0) 1 8 := inf_of (by kernel_rfl)
theorem inf100 : Inf Try.prog 100 (.agg [.int .i64 0, .slice none 0 0].toArray) 2 32 := inf_of (by kernel_rfl)
theorem inf102 : Inf Try.prog 102 (.agg [.int .i64 0, .int .i64 0, .int .i64 0].toArray) 3 24 := inf_of (by kernel_rfl)
theorem inf105 : Inf Try.prog 105 (.agg [.int .i64 0, .int .i64 0].toArray) 2 16 := inf_of (by kernel_rfl)
theorem inf116 : Inf Try.prog 116 (.agg [.int .u64 0, .int .u64 0, .int .u64 0, .int .u64 0, .int .u64 0, .int .u64 0, .int .u64 0, .int .u64 0].toArray) 8 64 := inf_of (by kernel_rfl)
theorem inf149 : Inf Try.prog 149 (.agg [.int .i64 0, .int .i64 0].toArray) 2 16 := inf_of (by kernel_rfl)
theorem inf173 : Inf Try.prog 173 (.agg [.int .i64 0, .int .i64 0].toArray) 2 16 := inf_of (by kernel_rfl)
theorem bd48_0 (z0 : Int) (W : World) : (Instr.build 48 ([(0, .int .i64 z0)] : List (Nat × Value)).toArray).run Try.prog W = .ok (.agg ([(.int .i64 z0)] : List Value).toArray) W := by kernel_rfl
theorem bd100_0 (z0 : Int) (W : World) : (Instr.build 100 ([(0, .int .i64 z0)] : List (Nat × Value)).toArray).run Try.prog W = .ok (.agg ([(.int .i64 z0), (.slice none 0 0)] : List Value).toArray) W := by kernel_rfl
theorem bd102  (W : World) : (Instr.build 102 ([] : List (Nat × Value)).toArray).run Try.prog W = .ok (.agg ([(.int .i64 0), (.int .i64 0), (.int .i64 0)] : List Value).toArray) W := by kernel_rfl
theorem bd102_0_1 (z0 : Int) (z1 : Int) (W : World) : (Instr.build 102 ([(0, .int .i64 z0), (1, .int .i64 z1)] : List (Nat × Value)).toArray).run Try.prog W = .ok (.agg ([(.int .i64 z0), (.int .i64 z1), (.int .i64 0)] : List Value).toArray) W := by kernel_rfl
theorem bd102_0_2 (z0 : Int) (z2 : Int) (W : World) : (Instr.build 102 ([(0, .int .i64 z0), (2, .int .i64 z2)] : List (Nat × Value)).toArray).run Try.prog W = .ok (.agg ([(.int .i64 z0), (.int .i64 0), (.int .i64 z2)] : List Value).toArray) W := by kernel_rfl
theorem bd105  (W : World) : (Instr.build 105 ([] : List (Nat × Value)).toArray).run Try.prog W = .ok (.agg ([(.int .i64 0), (.int .i64 0)] : List Value).toArray) W := by kernel_rfl
theorem bd105_0_1 (z0 : Int) (z1 : Int) (W : World) : (Instr.build 105 ([(0, .int .i64 z0), (1, .int .i64 z1)] : List (Nat × Value)).toArray).run Try.prog W = .ok (.agg ([(.int .i64 z0), (.int .i64 z1)] : List Value).toArray) W := by kernel_rfl
theorem bd110_0_1_2_3_5 (z0 : Option Addr) (y1_0 : Value) (z2 : Option Addr) (l2 c2 : Nat) (z3 : Option Nat) (z5 : Option Nat) (W : World) : (Instr.build 110 ([(0, .pointer z0), (1, .agg [y1_0].toArray), (2, .slice z2 l2 c2), (3, .map z3), (5, .map z5)] : List (Nat × Value)).toArray).run Try.prog W = .ok (.agg ([(.pointer z0), y1_0, (.slice z2 l2 c2), (.map z3), (.slice none 0 0), (.map z5)] : List Value).toArray) W := by kernel_rfl
theorem bd113_0 (z0 : Int) (W : World) : (Instr.build 113 ([(0, .int .i64 z0)] : List (Nat × Value)).toArray).run Try.prog W = .ok (.agg ([(.int .i64 z0), (.int .i64 0)] : List Value).toArray) W := by kernel_rfl
theorem bd113_0_1 (z0 : Int) (z1 : Int) (W : World) : (Instr.build 113 ([(0, .int .i64 z0), (1, .int .i64 z1)] : List (Nat × Value)).toArray).run Try.prog W = .ok (.agg ([(.int .i64 z0), (.int .i64 z1)] : List Value).toArray) W := by kernel_rfl
theorem bd116  (W : World) : (Instr.build 116 ([] : List (Nat × Value)).toArray).run Try.prog W = .ok (.agg ([(.int .u64 0), (.int .u64 0), (.int .u64 0), (.int .u64 0), (.int .u64 0), (.int .u64 0), (.int .u64 0), (.int .u64 0)] : List Value).toArray) W := by kernel_rfl
theorem bd119_0_1_2_3_4 (z0 : Option Addr) (l0 c0 : Nat) (z1 : Option Addr) (l1 c1 : Nat) (z2 : Option Addr) (l2 c2 : Nat) (z3 : Option Addr) (l3 c3 : Nat) (z4 : Option Addr) (l4 c4 : Nat) (W : World) : (Instr.build 119 ([(0, .slice z0 l0 c0), (1, .slice z1 l1 c1), (2, .slice z2 l2 c2), (3, .slice z3 l3 c3), (4, .slice z4 l4 c4)] : List (Nat × Value)).toArray).run Try.prog W = .ok (.agg ([(.slice z0 l0 c0), (.slice z1 l1 c1), (.slice z2 l2 c2), (.slice z3 l3 c3), (.slice z4 l4 c4), (.int .i64 0), (.int .i64 0), (.bool false), (.bool false)] : List Value).toArray) W := by kernel_rfl
theorem bd149  (W : World) : (Instr.build 149 ([] : List (Nat × Value)).toArray).run Try.prog W = .ok (.agg ([(.int .i64 0), (.int .i64 0)] : List Value).toArray) W := by kernel_rfl
theorem mixed : Try.prog.follows .mixedOrders = true := by kernel_rfl
variable {n : Nat} {f : Nat → Value} {ty : TypeId} {pos : String} {af : Array Edge} {g : Option (Nat × Bool)} {xs : Array Operand} {tys : Array TypeId} {dst : Option Tmp} {vs : List Value}
theorem ca18 {n : Sz} {f : Nat → Value} {ty : TypeId} {pos : String} {af : Array Edge} {g : Option (Nat × Bool)} {xs : Array Operand} {tys : Array TypeId} {dst : Option Tmp} {vs : List Value} (hv : xs.toList.map (ev n f) = vs) (W : World) : (execOp (ev n f) ⟨dst, .call ⟨.value (.func 18), xs, tys⟩, ty, pos, af, g⟩).run Try.prog W = .ok (.enter 18 vs.toArray) W := r_call Try.func18 (by kernel_rfl) (by kernel_rfl) hv W
theorem ca19 {n : Sz} {f : Nat → Value} {ty : TypeId} {pos : String} {af : Array Edge} {g : Option (Nat × Bool)} {xs : Array Operand} {tys : Array TypeId} {dst : Option Tmp} {vs : List Value} (hv : xs.toList.map (ev n f) = vs) (W : World) : (execOp (ev n f) ⟨dst, .call ⟨.value (.func 19), xs, tys⟩, ty, pos, af, g⟩).run Try.prog W = .ok (.enter 19 vs.toArray) W := r_call Try.func19 (by kernel_rfl) (by kernel_rfl) hv W
theorem ca20 {n : Sz} {f : Nat → Value} {ty : TypeId} {pos : String} {af : Array Edge} {g : Option (Nat × Bool)} {xs : Array Operand} {tys : Array TypeId} {dst : Option Tmp} {vs : List Value} (hv : xs.toList.map (ev n f) = vs) (W : World) : (execOp (ev n f) ⟨dst, .call ⟨.value (.func 20), xs, tys⟩, ty, pos, af, g⟩).run Try.prog W = .ok (.enter 20 vs.toArray) W := r_call Try.func20 (by kernel_rfl) (by kernel_rfl) hv W
theorem ca21 {n : Sz} {f : Nat → Value} {ty : TypeId} {pos : String} {af : Array Edge} {g : Option (Nat × Bool)} {xs : Array Operand} {tys : Array TypeId} {dst : Option Tmp} {vs : List Value} (hv : xs.toList.map (ev n f) = vs) (W : World) : (execOp (ev n f) ⟨dst, .call ⟨.value (.func 21), xs, tys⟩, ty, pos, af, g⟩).run Try.prog W = .ok (.enter 21 vs.toArray) W := r_call Try.func21 (by kernel_rfl) (by kernel_rfl) hv W
theorem ca22 {n : Sz} {f : Nat → Value} {ty : TypeId} {pos : String} {af : Array Edge} {g : Option (Nat × Bool)} {xs : Array Operand} {tys : Array TypeId} {dst : Option Tmp} {vs : List Value} (hv : xs.toList.map (ev n f) = vs) (W : World) : (execOp (ev n f) ⟨dst, .call ⟨.value (.func 22), xs, tys⟩, ty, pos, af, g⟩).run Try.prog W = .ok (.enter 22 vs.toArray) W := r_call Try.func22 (by kernel_rfl) (by kernel_rfl) hv W
theorem ca23 {n : Sz} {f : Nat → Value} {ty : TypeId} {pos : String} {af : Array Edge} {g : Option (Nat × Bool)} {xs : Array Operand} {tys : Array TypeId} {dst : Option Tmp} {vs : List Value} (hv : xs.toList.map (ev n f) = vs) (W : World) : (execOp (ev n f) ⟨dst, .call ⟨.value (.func 23), xs, tys⟩, ty, pos, af, g⟩).run Try.prog W = .ok (.enter 23 vs.toArray) W := r_call Try.func23 (by kernel_rfl) (by kernel_rfl) hv W
theorem ca24 {n : Sz} {f : Nat → Value} {ty : TypeId} {pos : String} {af : Array Edge} {g : Option (Nat × Bool)} {xs : Array Operand} {tys : Array TypeId} {dst : Option Tmp} {vs : List Value} (hv : xs.toList.map (ev n f) = vs) (W : World) : (execOp (ev n f) ⟨dst, .call ⟨.value (.func 24), xs, tys⟩, ty, pos, af, g⟩).run Try.prog W = .ok (.enter 24 vs.toArray) W := r_call Try.func24 (by kernel_rfl) (by kernel_rfl) hv W
theorem ca25 {n : Sz} {f : Nat → Value} {ty : TypeId} {pos : String} {af : Array Edge} {g : Option (Nat × Bool)} {xs : Array Operand} {tys : Array TypeId} {dst : Option Tmp} {vs : List Value} (hv : xs.toList.map (ev n f) = vs) (W : World) : (execOp (ev n f) ⟨dst, .call ⟨.value (.func 25), xs, tys⟩, ty, pos, af, g⟩).run Try.prog W = .ok (.enter 25 vs.toArray) W := r_call Try.func25 (by kernel_rfl) (by kernel_rfl) hv W
theorem ca26 {n : Sz} {f : Nat → Value} {ty : TypeId} {pos : String} {af : Array Edge} {g : Option (Nat × Bool)} {xs : Array Operand} {tys : Array TypeId} {dst : Option Tmp} {vs : List Value} (hv : xs.toList.map (ev n f) = vs) (W : World) : (execOp (ev n f) ⟨dst, .call ⟨.value (.func 26), xs, tys⟩, ty, pos, af, g⟩).run Try.prog W = .ok (.enter 26 vs.toArray) W := r_call Try.func26 (by kernel_rfl) (by kernel_rfl) hv W
theorem ca27 {n : Sz} {f : Nat → Value} {ty : TypeId} {pos : String} {af : Array Edge} {g : Option (Nat × Bool)} {xs : Array Operand} {tys : Array TypeId} {dst : Option Tmp} {vs : List Value} (hv : xs.toList.map (ev n f) = vs) (W : World) : (execOp (ev n f) ⟨dst, .call ⟨.value (.func 27), xs, tys⟩, ty, pos, af, g⟩).run Try.prog W = .ok (.enter 27 vs.toArray) W := r_call Try.func27 (by kernel_rfl) (by kernel_rfl) hv W
theorem ca28 {n : Sz} {f : Nat → Value} {ty : TypeId} {pos : String} {af : Array Edge} {g : Option (Nat × Bool)} {xs : Array Operand} {tys : Array TypeId} {dst : Option Tmp} {vs : List Value} (hv : xs.toList.map (ev n f) = vs) (W : World) : (execOp (ev n f) ⟨dst, .call ⟨.value (.func 28), xs, tys⟩, ty, pos, af, g⟩).run Try.prog W = .ok (.enter 28 vs.toArray) W := r_call Try.func28 (by kernel_rfl) (by kernel_rfl) hv W
theorem ca29 {n : Sz} {f : Nat → Value} {ty : TypeId} {pos : String} {af : Array Edge} {g : Option (Nat × Bool)} {xs : Array Operand} {tys : Array TypeId} {dst : Option Tmp} {vs : List Value} (hv : xs.toList.map (ev n f) = vs) (W : World) : (execOp (ev n f) ⟨dst, .call ⟨.value (.func 29), xs, tys⟩, ty, pos, af, g⟩).run Try.prog W = .ok (.enter 29 vs.toArray) W := r_call Try.func29 (by kernel_rfl) (by kernel_rfl) hv W
theorem ca30 {n : Sz} {f : Nat → Value} {ty : TypeId} {pos : String} {af : Array Edge} {g : Option (Nat × Bool)} {xs : Array Operand} {tys : Array TypeId} {dst : Option Tmp} {vs : List Value} (hv : xs.toList.map (ev n f) = vs) (W : World) : (execOp (ev n f) ⟨dst, .call ⟨.value (.func 30), xs, tys⟩, ty, pos, af, g⟩).run Try.prog W = .ok (.enter 30 vs.toArray) W := r_call Try.func30 (by kernel_rfl) (by kernel_rfl) hv W
theorem ca31 {n : Sz} {f : Nat → Value} {ty : TypeId} {pos : String} {af : Array Edge} {g : Option (Nat × Bool)} {xs : Array Operand} {tys : Array TypeId} {dst : Option Tmp} {vs : List Value} (hv : xs.toList.map (ev n f) = vs) (W : World) : (execOp (ev n f) ⟨dst, .call ⟨.value (.func 31), xs, tys⟩, ty, pos, af, g⟩).run Try.prog W = .ok (.enter 31 vs.toArray) W := r_call Try.func31 (by kernel_rfl) (by kernel_rfl) hv W
theorem ca32 {n : Sz} {f : Nat → Value} {ty : TypeId} {pos : String} {af : Array Edge} {g : Option (Nat × Bool)} {xs : Array Operand} {tys : Array TypeId} {dst : Option Tmp} {vs : List Value} (hv : xs.toList.map (ev n f) = vs) (W : World) : (execOp (ev n f) ⟨dst, .call ⟨.value (.func 32), xs, tys⟩, ty, pos, af, g⟩).run Try.prog W = .ok (.enter 32 vs.toArray) W := r_call Try.func32 (by kernel_rfl) (by kernel_rfl) hv W
theorem ca55 {n : Sz} {f : Nat → Value} {ty : TypeId} {pos : String} {af : Array Edge} {g : Option (Nat × Bool)} {xs : Array Operand} {tys : Array TypeId} {dst : Option Tmp} {vs : List Value} (hv : xs.toList.map (ev n f) = vs) (W : World) : (execOp (ev n f) ⟨dst, .call ⟨.value (.func 55), xs, tys⟩, ty, pos, af, g⟩).run Try.prog W = .ok (.enter 55 vs.toArray) W := r_call Try.func55 (by kernel_rfl) (by kernel_rfl) hv W
theorem ca58 {n : Sz} {f : Nat → Value} {ty : TypeId} {pos : String} {af : Array Edge} {g : Option (Nat × Bool)} {xs : Array Operand} {tys : Array TypeId} {dst : Option Tmp} {vs : List Value} (hv : xs.toList.map (ev n f) = vs) (W : World) : (execOp (ev n f) ⟨dst, .call ⟨.value (.func 58), xs, tys⟩, ty, pos, af, g⟩).run Try.prog W = .ok (.enter 58 vs.toArray) W := r_call Try.func58 (by kernel_rfl) (by kernel_rfl) hv W
theorem ca59 {n : Sz} {f : Nat → Value} {ty : TypeId} {pos : String} {af : Array Edge} {g : Option (Nat × Bool)} {xs : Array Operand} {tys : Array TypeId} {dst : Option Tmp} {vs : List Value} (hv : xs.toList.map (ev n f) = vs) (W : World) : (execOp (ev n f) ⟨dst, .call ⟨.value (.func 59), xs, tys⟩, ty, pos, af, g⟩).run Try.prog W = .ok (.enter 59 vs.toArray) W := r_call Try.func59 (by kernel_rfl) (by kernel_rfl) hv W
theorem ca60 {n : Sz} {f : Nat → Value} {ty : TypeId} {pos : String} {af : Array Edge} {g : Option (Nat × Bool)} {xs : Array Operand} {tys : Array TypeId} {dst : Option Tmp} {vs : List Value} (hv : xs.toList.map (ev n f) = vs) (W : World) : (execOp (ev n f) ⟨dst, .call ⟨.value (.func 60), xs, tys⟩, ty, pos, af, g⟩).run Try.prog W = .ok (.enter 60 vs.toArray) W := r_call Try.func60 (by kernel_rfl) (by kernel_rfl) hv W
theorem ca61 {n : Sz} {f : Nat → Value} {ty : TypeId} {pos : String} {af : Array Edge} {g : Option (Nat × Bool)} {xs : Array Operand} {tys : Array TypeId} {dst : Option Tmp} {vs : List Value} (hv : xs.toList.map (ev n f) = vs) (W : World) : (execOp (ev n f) ⟨dst, .call ⟨.value (.func 61), xs, tys⟩, ty, pos, af, g⟩).run Try.prog W = .ok (.enter 61 vs.toArray) W := r_call Try.func61 (by kernel_rfl) (by kernel_rfl) hv W
theorem ca62 {n : Sz} {f : Nat → Value} {ty : TypeId} {pos : String} {af : Array Edge} {g : Option (Nat × Bool)} {xs : Array Operand} {tys : Array TypeId} {dst : Option Tmp} {vs : List Value} (hv : xs.toList.map (ev n f) = vs) (W : World) : (execOp (ev n f) ⟨dst, .call ⟨.value (.func 62), xs, tys⟩, ty, pos, af, g⟩).run Try.prog W = .ok (.enter 62 vs.toArray) W := r_call Try.func62 (by kernel_rfl) (by kernel_rfl) hv W
theorem ca63 {n : Sz} {f : Nat → Value} {ty : TypeId} {pos : String} {af : Array Edge} {g : Option (Nat × Bool)} {xs : Array Operand} {tys : Array TypeId} {dst : Option Tmp} {vs : List Value} (hv : xs.toList.map (ev n f) = vs) (W : World) : (execOp (ev n f) ⟨dst, .call ⟨.value (.func 63), xs, tys⟩, ty, pos, af, g⟩).run Try.prog W = .ok (.enter 63 vs.toArray) W := r_call Try.func63 (by kernel_rfl) (by kernel_rfl) hv W
theorem ca64 {n : Sz} {f : Nat → Value} {ty : TypeId} {pos : String} {af : Array Edge} {g : Option (Nat × Bool)} {xs : Array Operand} {tys : Array TypeId} {dst : Option Tmp} {vs : List Value} (hv : xs.toList.map (ev n f) = vs) (W : World) : (execOp (ev n f) ⟨dst, .call ⟨.value (.func 64), xs, tys⟩, ty, pos, af, g⟩).run Try.prog W = .ok (.enter 64 vs.toArray) W := r_call Try.func64 (by kernel_rfl) (by kernel_rfl) hv W
theorem ca65 {n : Sz} {f : Nat → Value} {ty : TypeId} {pos : String} {af : Array Edge} {g : Option (Nat × Bool)} {xs : Array Operand} {tys : Array TypeId} {dst : Option Tmp} {vs : List Value} (hv : xs.toList.map (ev n f) = vs) (W : World) : (execOp (ev n f) ⟨dst, .call ⟨.value (.func 65), xs, tys⟩, ty, pos, af, g⟩).run Try.prog W = .ok (.enter 65 vs.toArray) W := r_call Try.func65 (by kernel_rfl) (by kernel_rfl) hv W
theorem ca66 {n : Sz} {f : Nat → Value} {ty : TypeId} {pos : String} {af : Array Edge} {g : Option (Nat × Bool)} {xs : Array Operand} {tys : Array TypeId} {dst : Option Tmp} {vs : List Value} (hv : xs.toList.map (ev n f) = vs) (W : World) : (execOp (ev n f) ⟨dst, .call ⟨.value (.func 66), xs, tys⟩, ty, pos, af, g⟩).run Try.prog W = .ok (.enter 66 vs.toArray) W := r_call Try.func66 (by kernel_rfl) (by kernel_rfl) hv W
theorem ca86 {n : Sz} {f : Nat → Value} {ty : TypeId} {pos : String} {af : Array Edge} {g : Option (Nat × Bool)} {xs : Array Operand} {tys : Array TypeId} {dst : Option Tmp} {vs : List Value} (hv : xs.toList.map (ev n f) = vs) (W : World) : (execOp (ev n f) ⟨dst, .call ⟨.value (.func 86), xs, tys⟩, ty, pos, af, g⟩).run Try.prog W = .ok (.enter 86 vs.toArray) W := r_call Try.func86 (by kernel_rfl) (by kernel_rfl) hv W
theorem ca88 {n : Sz} {f : Nat → Value} {ty : TypeId} {pos : String} {af : Array Edge} {g : Option (Nat × Bool)} {xs : Array Operand} {tys : Array TypeId} {dst : Option Tmp} {vs : List Value} (hv : xs.toList.map (ev n f) = vs) (W : World) : (execOp (ev n f) ⟨dst, .call ⟨.value (.func 88), xs, tys⟩, ty, pos, af, g⟩).run Try.prog W = .ok (.enter 88 vs.toArray) W := r_call Try.func88 (by kernel_rfl) (by kernel_rfl) hv W
theorem ca89 {n : Sz} {f : Nat → Value} {ty : TypeId} {pos : String} {af : Array Edge} {g : Option (Nat × Bool)} {xs : Array Operand} {tys : Array TypeId} {dst : Option Tmp} {vs : List Value} (hv : xs.toList.map (ev n f) = vs) (W : World) : (execOp (ev n f) ⟨dst, .call ⟨.value (.func 89), xs, tys⟩, ty, pos, af, g⟩).run Try.prog W = .ok (.enter 89 vs.toArray) W := r_call Try.func89 (by kernel_rfl) (by kernel_rfl) hv W
theorem ca90 {n : Sz} {f : Nat → Value} {ty : TypeId} {pos : String} {af : Array Edge} {g : Option (Nat × Bool)} {xs : Array Operand} {tys : Array TypeId} {dst : Option Tmp} {vs : List Value} (hv : xs.toList.map (ev n f) = vs) (W : World) : (execOp (ev n f) ⟨dst, .call ⟨.value (.func 90), xs, tys⟩, ty, pos, af, g⟩).run Try.prog W = .ok (.enter 90 vs.toArray) W := r_call Try.func90 (by kernel_rfl) (by kernel_rfl) hv W
theorem ca91 {n : Sz} {f : Nat → Value} {ty : TypeId} {pos : String} {af : Array Edge} {g : Option (Nat × Bool)} {xs : Array Operand} {tys : Array TypeId} {dst : Option Tmp} {vs : List Value} (hv : xs.toList.map (ev n f) = vs) (W : World) : (execOp (ev n f) ⟨dst, .call ⟨.value (.func 91), xs, tys⟩, ty, pos, af, g⟩).run Try.prog W = .ok (.enter 91 vs.toArray) W := r_call Try.func91 (by kernel_rfl) (by kernel_rfl) hv W
theorem ca92 {n : Sz} {f : Nat → Value} {ty : TypeId} {pos : String} {af : Array Edge} {g : Option (Nat × Bool)} {xs : Array Operand} {tys : Array TypeId} {dst : Option Tmp} {vs : List Value} (hv : xs.toList.map (ev n f) = vs) (W : World) : (execOp (ev n f) ⟨dst, .call ⟨.value (.func 92), xs, tys⟩, ty, pos, af, g⟩).run Try.prog W = .ok (.enter 92 vs.toArray) W := r_call Try.func92 (by kernel_rfl) (by kernel_rfl) hv W
theorem ca93 {n : Sz} {f : Nat → Value} {ty : TypeId} {pos : String} {af : Array Edge} {g : Option (Nat × Bool)} {xs : Array Operand} {tys : Array TypeId} {dst : Option Tmp} {vs : List Value} (hv : xs.toList.map (ev n f) = vs) (W : World) : (execOp (ev n f) ⟨dst, .call ⟨.value (.func 93), xs, tys⟩, ty, pos, af, g⟩).run Try.prog W = .ok (.enter 93 vs.toArray) W := r_call Try.func93 (by kernel_rfl) (by kernel_rfl) hv W
theorem ca112 {n : Sz} {f : Nat → Value} {ty : TypeId} {pos : String} {af : Array Edge} {g : Option (Nat × Bool)} {xs : Array Operand} {tys : Array TypeId} {dst : Option Tmp} {vs : List Value} (hv : xs.toList.map (ev n f) = vs) (W : World) : (execOp (ev n f) ⟨dst, .call ⟨.value (.func 112), xs, tys⟩, ty, pos, af, g⟩).run Try.prog W = .ok (.enter 112 vs.toArray) W := r_call Try.func112 (by kernel_rfl) (by kernel_rfl) hv W
theorem ca113 {n : Sz} {f : Nat → Value} {ty : TypeId} {pos : String} {af : Array Edge} {g : Option (Nat × Bool)} {xs : Array Operand} {tys : Array TypeId} {dst : Option Tmp} {vs : List Value} (hv : xs.toList.map (ev n f) = vs) (W : World) : (execOp (ev n f) ⟨dst, .call ⟨.value (.func 113), xs, tys⟩, ty, pos, af, g⟩).run Try.prog W = .ok (.enter 113 vs.toArray) W := r_call Try.func113 (by kernel_rfl) (by kernel_rfl) hv W
theorem ca114 {n : Sz} {f : Nat → Value} {ty : TypeId} {pos : String} {af : Array Edge} {g : Option (Nat × Bool)} {xs : Array Operand} {tys : Array TypeId} {dst : Option Tmp} {vs : List Value} (hv : xs.toList.map (ev n f) = vs) (W : World) : (execOp (ev n f) ⟨dst, .call ⟨.value (.func 114), xs, tys⟩, ty, pos, af, g⟩).run Try.prog W = .ok (.enter 114 vs.toArray) W := r_call Try.func114 (by kernel_rfl) (by kernel_rfl) hv W
theorem ca115 {n : Sz} {f : Nat → Value} {ty : TypeId} {pos : String} {af : Array Edge} {g : Option (Nat × Bool)} {xs : Array Operand} {tys : Array TypeId} {dst : Option Tmp} {vs : List Value} (hv : xs.toList.map (ev n f) = vs) (W : World) : (execOp (ev n f) ⟨dst, .call ⟨.value (.func 115), xs, tys⟩, ty, pos, af, g⟩).run Try.prog W = .ok (.enter 115 vs.toArray) W := r_call Try.func115 (by kernel_rfl) (by kernel_rfl) hv W
theorem ca116 {n : Sz} {f : Nat → Value} {ty : TypeId} {pos : String} {af : Array Edge} {g : Option (Nat × Bool)} {xs : Array Operand} {tys : Array TypeId} {dst : Option Tmp} {vs : List Value} (hv : xs.toList.map (ev n f) = vs) (W : World) : (execOp (ev n f) ⟨dst, .call ⟨.value (.func 116), xs, tys⟩, ty, pos, af, g⟩).run Try.prog W = .ok (.enter 116 vs.toArray) W := r_call Try.func116 (by kernel_rfl) (by kernel_rfl) hv W
theorem ca117 {n : Sz} {f : Nat → Value} {ty : TypeId} {pos : String} {af : Array Edge} {g : Option (Nat × Bool)} {xs : Array Operand} {tys : Array TypeId} {dst : Option Tmp} {vs : List Value} (hv : xs.toList.map (ev n f) = vs) (W : World) : (execOp (ev n f) ⟨dst, .call ⟨.value (.func 117), xs, tys⟩, ty, pos, af, g⟩).run Try.prog W = .ok (.enter 117 vs.toArray) W := r_call Try.func117 (by kernel_rfl) (by kernel_rfl) hv W
theorem ca118 {n : Sz} {f : Nat → Value} {ty : TypeId} {pos : String} {af : Array Edge} {g : Option (Nat × Bool)} {xs : Array Operand} {tys : Array TypeId} {dst : Option Tmp} {vs : List Value} (hv : xs.toList.map (ev n f) = vs) (W : World) : (execOp (ev n f) ⟨dst, .call ⟨.value (.func 118), xs, tys⟩, ty, pos, af, g⟩).run Try.prog W = .ok (.enter 118 vs.toArray) W := r_call Try.func118 (by kernel_rfl) (by kernel_rfl) hv W
theorem ca119 {n : Sz} {f : Nat → Value} {ty : TypeId} {pos : String} {af : Array Edge} {g : Option (Nat × Bool)} {xs : Array Operand} {tys : Array TypeId} {dst : Option Tmp} {vs : List Value} (hv : xs.toList.map (ev n f) = vs) (W : World) : (execOp (ev n f) ⟨dst, .call ⟨.value (.func 119), xs, tys⟩, ty, pos, af, g⟩).run Try.prog W = .ok (.enter 119 vs.toArray) W := r_call Try.func119 (by kernel_rfl) (by kernel_rfl) hv W
theorem ca120 {n : Sz} {f : Nat → Value} {ty : TypeId} {pos : String} {af : Array Edge} {g : Option (Nat × Bool)} {xs : Array Operand} {tys : Array TypeId} {dst : Option Tmp} {vs : List Value} (hv : xs.toList.map (ev n f) = vs) (W : World) : (execOp (ev n f) ⟨dst, .call ⟨.value (.func 120), xs, tys⟩, ty, pos, af, g⟩).run Try.prog W = .ok (.enter 120 vs.toArray) W := r_call Try.func120 (by kernel_rfl) (by kernel_rfl) hv W
theorem ca121 {n : Sz} {f : Nat → Value} {ty : TypeId} {pos : String} {af : Array Edge} {g : Option (Nat × Bool)} {xs : Array Operand} {tys : Array TypeId} {dst : Option Tmp} {vs : List Value} (hv : xs.toList.map (ev n f) = vs) (W : World) : (execOp (ev n f) ⟨dst, .call ⟨.value (.func 121), xs, tys⟩, ty, pos, af, g⟩).run Try.prog W = .ok (.enter 121 vs.toArray) W := r_call Try.func121 (by kernel_rfl) (by kernel_rfl) hv W
theorem ca122 {n : Sz} {f : Nat → Value} {ty : TypeId} {pos : String} {af : Array Edge} {g : Option (Nat × Bool)} {xs : Array Operand} {tys : Array TypeId} {dst : Option Tmp} {vs : List Value} (hv : xs.toList.map (ev n f) = vs) (W : World) : (execOp (ev n f) ⟨dst, .call ⟨.value (.func 122), xs, tys⟩, ty, pos, af, g⟩).run Try.prog W = .ok (.enter 122 vs.toArray) W := r_call Try.func122 (by kernel_rfl) (by kernel_rfl) hv W
theorem ca145 {n : Sz} {f : Nat → Value} {ty : TypeId} {pos : String} {af : Array Edge} {g : Option (Nat × Bool)} {xs : Array Operand} {tys : Array TypeId} {dst : Option Tmp} {vs : List Value} (hv : xs.toList.map (ev n f) = vs) (W : World) : (execOp (ev n f) ⟨dst, .call ⟨.value (.func 145), xs, tys⟩, ty, pos, af, g⟩).run Try.prog W = .ok (.enter 145 vs.toArray) W := r_call Try.func145 (by kernel_rfl) (by kernel_rfl) hv W
end Go.Proofs.Ytlakbclnilakbaa
end

section
namespace Go.Proofs.Ytlakbclnilakbaa.Nv
/-- a device: its words as they last, as they are in the cache, as they were flushed (8 a line); which lines are dirty, which pending; steps done; the fuse -/
structure D where
 last : List Int
 cache : List Int
 fl : List Int
 dirty : List Bool
 pend : List Bool
 steps : Int
 fuse : Int
 armed : Bool
 dead : Bool
/-- all rows have whole lines -/
structure Ok (d : D) (m : Nat) : Prop where
 hl : d.last.length = 8 * m
 hc : d.cache.length = 8 * m
 hf : d.fl.length = 8 * m
 hd : d.dirty.length = m
 hp : d.pend.length = m
def part (l : List Int) (i : Nat) : List Int := (l.drop (8 * i)).take 8
def setPart (l : List Int) (i : Nat) (p : List Int) : List Int := l.take (8 * i) ++ p ++ l.drop (8 * i + 8)
def load (ws : List Int) (m : Nat) : D := ⟨ws, ws, List.replicate ws.length 0, List.replicate m false, List.replicate m false, 0, 0, false, false⟩
def stops (d : D) : Bool := d.dead || (d.armed && d.fuse == 0)
def stepped (d : D) : D := { d with fuse := IntKind.i64.wrap (d.fuse - 1), steps := IntKind.i64.wrap (d.steps + 1) }
def killed (d : D) : D := { d with dead := true }
def put (d : D) (a : Nat) (v : Int) : D := { d with cache := d.cache.set a v, dirty := d.dirty.set (a / 8) true }
def flushed (d : D) (i : Nat) : D := { d with pend := d.pend.set i true, fl := setPart d.fl i (part d.cache i) }
def same (a b : List Int) : Bool := decide (a = b)
def store (d : D) (m : Nat) (a v : Int) : D × Int :=
 if 0 ≤ a ∧ a < 8 * (m : Int) then (if stops d = true then (killed d, 3) else (put (stepped d) a.toNat v, 0)) else (d, 2)
def get (l : List Int) (a : Int) : Int := if 0 ≤ a ∧ a < (l.length : Int) then l.getD a.toNat 0 else 0
theorem length_setPart {l p : List Int} {i : Nat} (h : 8 * i + 8 ≤ l.length) (hp : p.length = 8) : (setPart l i p).length = l.length := by simp [setPart]; omega
theorem length_part {l : List Int} {i : Nat} (h : 8 * i + 8 ≤ l.length) : (part l i).length = 8 := by simp [part]; omega
theorem Ok.killed {d : D} {m : Nat} (h : Ok d m) : Ok (killed d) m := ⟨h.hl, h.hc, h.hf, h.hd, h.hp⟩
theorem Ok.stepped {d : D} {m : Nat} (h : Ok d m) : Ok (stepped d) m := ⟨h.hl, h.hc, h.hf, h.hd, h.hp⟩
theorem Ok.put {d : D} {m : Nat} (h : Ok d m) (a : Nat) (v : Int) : Ok (put d a v) m := ⟨h.hl, by simp [Nv.put, h.hc], h.hf, by simp [Nv.put, h.hd], h.hp⟩
theorem Ok.flushed {d : D} {m : Nat} (h : Ok d m) {i : Nat} (hi : i < m) : Ok (flushed d i) m :=
 ⟨h.hl, h.hc, by simp only [Nv.flushed]; rw [length_setPart (by rw [h.hf]; omega) (length_part (by rw [h.hc]; omega)), h.hf], h.hd, by simp [Nv.flushed, h.hp]⟩
theorem Ok.store {d : D} {m : Nat} (h : Ok d m) (a v : Int) : Ok (store d m a v).1 m := by
 unfold Nv.store; split
 ·split
  ·exact h.killed
  ·exact h.stepped.put _ _
 ·exact h
end Go.Proofs.Ytlakbclnilakbaa.Nv
end

section
namespace Go.Proofs.Ytlakbclnilakbaa
open Go.RowKit
/-- where a device lies -/
structure Geo where
  p : Nat
  bl : Nat
  bc : Nat
  bf : Nat
  bd : Nat
  bp : Nat
  cl : Nat
  cc : Nat
  cf : Nat
  cd : Nat
  cp : Nat
def devCells (g : Geo) (d : Nv.D) : List Value :=
  [.slice (some ⟨g.bl, 0, none⟩) d.last.length g.cl, .slice (some ⟨g.bc, 0, none⟩) d.cache.length g.cc, .slice (some ⟨g.bf, 0, none⟩) d.fl.length g.cf, .slice (some ⟨g.bd, 0, none⟩) d.dirty.length g.cd, .slice (some ⟨g.bp, 0, none⟩) d.pend.length g.cp,
   .int .i64 d.steps, .int .i64 d.fuse, .bool d.armed, .bool d.dead]
def devL (g : Geo) (d : Nv.D) : List Ent :=
  [blk g.p (devCells g d) 119, vec (Value.int .u64) g.bl d.last 78, vec (Value.int .u64) g.bc d.cache 78, vec (Value.int .u64) g.bf d.fl 78, vec Value.bool g.bd d.dirty 4, vec Value.bool g.bp d.pend 4]
abbrev ptr (b : Nat) : Value := .pointer (some ⟨b, 0, none⟩)
end Go.Proofs.Ytlakbclnilakbaa
end

section
namespace Go.Proofs.Ytlakbclnilakbaa
open Go.RowKit
/-- the rows have room -/
structure GOk (g : Geo) (m : Nat) : Prop where
 l : 8 * m ≤ g.cl ∧ g.cl ≤ 9223372036854775807
 c : 8 * m ≤ g.cc ∧ g.cc ≤ 9223372036854775807
 f : 8 * m ≤ g.cf ∧ g.cf ≤ 9223372036854775807
 d : m ≤ g.cd ∧ g.cd ≤ 9223372036854775807
 p : m ≤ g.cp ∧ g.cp ≤ 9223372036854775807
end Go.Proofs.Ytlakbclnilakbaa
end

section
namespace Go.Proofs.Ytlakbclnilakbaa
open Go.RowKit
theorem nGet (g : Geo) (d : Nv.D) (a : Int) (w : World) (hE : Ents (devL g d) w) :
  Calls Try.prog 120 [ptr g.p, .int .i64 a].toArray w fun e w' => e = .returned (.int .u64 (Nv.get d.cache a)) ∧ Only [] w w' := by
 have H := Heap.start hE
 generalize hF : ids (devL g d) = F at H
 unfold devL devCells at H
 unfold Nv.get
 by_cases hin : 0 ≤ a ∧ a < (d.cache.length : Int)
 ·rw [if_pos hin]
  obtain ⟨i, rfl⟩ : ∃ i : Nat, a = (i : Int) := ⟨a.toNat, by omega⟩
  rw [Int.toNat_natCast]
  refine k_in (N := 23) Try.func120 rfl rfl rfl ?_
  refine k_sg ?_
  refine s_run rfl rfl (rai rfl) ?_
  refine k_nc ?_
  refine k_seq ?_
  refine k_sg ?_
  refine s_run rfl rfl (rmi rfl) ?_
  refine s_run rfl rfl (r_lssF rfl rfl (by omega)) ?_
  refine s_run rfl rfl (rmb rfl) ?_
  refine s_run rfl (g_on 7 (by kernel_rfl) rfl) (rmi rfl) ?_
  refine s_run rfl (g_on 7 (by kernel_rfl) rfl) (rmp rfl) ?_
  refine s_run rfl (g_on 7 (by kernel_rfl) rfl) (r_nc rfl) ?_
  first | (refine s_run rfl (g_on 7 (by kernel_rfl) rfl) (r_fa0 rfl fo119_1) ?_) | (refine s_run rfl (g_on 7 (by kernel_rfl) rfl) (r_fa rfl fo119_1) ?_) | fail
  first | (refine s_run rfl (g_on 7 (by kernel_rfl) rfl) (r_lo H 0 rfl rfl rfl ag66) ?_) | (refine s_run rfl (g_on 7 (by kernel_rfl) rfl) (r_lo H 1 rfl rfl rfl ag66) ?_) | (refine s_run rfl (g_on 7 (by kernel_rfl) rfl) (r_lo H 2 rfl rfl rfl ag66) ?_) | (refine s_run rfl (g_on 7 (by kernel_rfl) rfl) (r_lo H 3 rfl rfl rfl ag66) ?_) | (refine s_run rfl (g_on 7 (by kernel_rfl) rfl) (r_lo H 4 rfl rfl rfl ag66) ?_) | (refine s_run rfl (g_on 7 (by kernel_rfl) rfl) (r_lo H 5 rfl rfl rfl ag66) ?_) | (refine s_run rfl (g_on 7 (by kernel_rfl) rfl) (r_lo H 6 rfl rfl rfl ag66) ?_) | (refine s_run rfl (g_on 7 (by kernel_rfl) rfl) (r_lv H 0 rfl rfl (by assumption) ag66) ?_) | (refine s_run rfl (g_on 7 (by kernel_rfl) rfl) (r_lv H 1 rfl rfl (by assumption) ag66) ?_) | (refine s_run rfl (g_on 7 (by kernel_rfl) rfl) (r_lv H 2 rfl rfl (by assumption) ag66) ?_) | (refine s_run rfl (g_on 7 (by kernel_rfl) rfl) (r_lv H 3 rfl rfl (by assumption) ag66) ?_) | (refine s_run rfl (g_on 7 (by kernel_rfl) rfl) (r_lv H 4 rfl rfl (by assumption) ag66) ?_) | (refine s_run rfl (g_on 7 (by kernel_rfl) rfl) (r_lv H 5 rfl rfl (by assumption) ag66) ?_) | (refine s_run rfl (g_on 7 (by kernel_rfl) rfl) (r_lv H 6 rfl rfl (by assumption) ag66) ?_) | (refine s_run rfl (g_on 7 (by kernel_rfl) rfl) (r_lv H 0 rfl rfl (getE (by omega)) ag66) ?_) | (refine s_run rfl (g_on 7 (by kernel_rfl) rfl) (r_lv H 1 rfl rfl (getE (by omega)) ag66) ?_) | (refine s_run rfl (g_on 7 (by kernel_rfl) rfl) (r_lv H 2 rfl rfl (getE (by omega)) ag66) ?_) | (refine s_run rfl (g_on 7 (by kernel_rfl) rfl) (r_lv H 3 rfl rfl (getE (by omega)) ag66) ?_) | (refine s_run rfl (g_on 7 (by kernel_rfl) rfl) (r_lv H 4 rfl rfl (getE (by omega)) ag66) ?_) | (refine s_run rfl (g_on 7 (by kernel_rfl) rfl) (r_lv H 5 rfl rfl (getE (by omega)) ag66) ?_) | (refine s_run rfl (g_on 7 (by kernel_rfl) rfl) (r_lv H 6 rfl rfl (getE (by omega)) ag66) ?_) | (refine s_run rfl (g_on 7 (by kernel_rfl) rfl) (r_lr H rfl (by assumption) (by simp) ag66) ?_) | fail
  refine s_run rfl (g_on 7 (by kernel_rfl) rfl) (r_len rfl Try.underlying66) ?_
  refine s_run rfl (g_on 7 (by kernel_rfl) rfl) (r_geqF rfl rfl (by omega)) ?_
  refine s_run rfl rfl (r_pkF (v := .bool _) rfl rfl) ?_
  refine k_nc ?_
  refine k_f rfl ?_
  refine k_skip ?_
  refine c_norm ?_
  refine k_sg ?_
  refine s_run rfl rfl (rmp rfl) ?_
  refine s_run rfl rfl (r_nc rfl) ?_
  first | (refine s_run rfl rfl (r_fa0 rfl fo119_1) ?_) | (refine s_run rfl rfl (r_fa rfl fo119_1) ?_) | fail
  first | (refine s_run rfl rfl (r_lo H 0 rfl rfl rfl ag66) ?_) | (refine s_run rfl rfl (r_lo H 1 rfl rfl rfl ag66) ?_) | (refine s_run rfl rfl (r_lo H 2 rfl rfl rfl ag66) ?_) | (refine s_run rfl rfl (r_lo H 3 rfl rfl rfl ag66) ?_) | (refine s_run rfl rfl (r_lo H 4 rfl rfl rfl ag66) ?_) | (refine s_run rfl rfl (r_lo H 5 rfl rfl rfl ag66) ?_) | (refine s_run rfl rfl (r_lo H 6 rfl rfl rfl ag66) ?_) | (refine s_run rfl rfl (r_lv H 0 rfl rfl (by assumption) ag66) ?_) | (refine s_run rfl rfl (r_lv H 1 rfl rfl (by assumption) ag66) ?_) | (refine s_run rfl rfl (r_lv H 2 rfl rfl (by assumption) ag66) ?_) | (refine s_run rfl rfl (r_lv H 3 rfl rfl (by assumption) ag66) ?_) | (refine s_run rfl rfl (r_lv H 4 rfl rfl (by assumption) ag66) ?_) | (refine s_run rfl rfl (r_lv H 5 rfl rfl (by assumption) ag66) ?_) | (refine s_run rfl rfl (r_lv H 6 rfl rfl (by assumption) ag66) ?_) | (refine s_run rfl rfl (r_lv H 0 rfl rfl (getE (by omega)) ag66) ?_) | (refine s_run rfl rfl (r_lv H 1 rfl rfl (getE (by omega)) ag66) ?_) | (refine s_run rfl rfl (r_lv H 2 rfl rfl (getE (by omega)) ag66) ?_) | (refine s_run rfl rfl (r_lv H 3 rfl rfl (getE (by omega)) ag66) ?_) | (refine s_run rfl rfl (r_lv H 4 rfl rfl (getE (by omega)) ag66) ?_) | (refine s_run rfl rfl (r_lv H 5 rfl rfl (getE (by omega)) ag66) ?_) | (refine s_run rfl rfl (r_lv H 6 rfl rfl (getE (by omega)) ag66) ?_) | (refine s_run rfl rfl (r_lr H rfl (by assumption) (by simp) ag66) ?_) | fail
  refine s_run rfl rfl (rmi rfl) ?_
  first | (refine s_run rfl rfl (r_ix1 rfl rfl rfl (by omega) Try.underlying66 sz78) ?_) | (refine s_run rfl rfl (r_ix1o rfl rfl rfl (by omega) Try.underlying66 sz78) ?_) | fail
  first | (refine s_run rfl rfl (r_lo H 0 rfl rfl rfl ag78) ?_) | (refine s_run rfl rfl (r_lo H 1 rfl rfl rfl ag78) ?_) | (refine s_run rfl rfl (r_lo H 2 rfl rfl rfl ag78) ?_) | (refine s_run rfl rfl (r_lo H 3 rfl rfl rfl ag78) ?_) | (refine s_run rfl rfl (r_lo H 4 rfl rfl rfl ag78) ?_) | (refine s_run rfl rfl (r_lo H 5 rfl rfl rfl ag78) ?_) | (refine s_run rfl rfl (r_lo H 6 rfl rfl rfl ag78) ?_) | (refine s_run rfl rfl (r_lv H 0 rfl rfl (by assumption) ag78) ?_) | (refine s_run rfl rfl (r_lv H 1 rfl rfl (by assumption) ag78) ?_) | (refine s_run rfl rfl (r_lv H 2 rfl rfl (by assumption) ag78) ?_) | (refine s_run rfl rfl (r_lv H 3 rfl rfl (by assumption) ag78) ?_) | (refine s_run rfl rfl (r_lv H 4 rfl rfl (by assumption) ag78) ?_) | (refine s_run rfl rfl (r_lv H 5 rfl rfl (by assumption) ag78) ?_) | (refine s_run rfl rfl (r_lv H 6 rfl rfl (by assumption) ag78) ?_) | (refine s_run rfl rfl (r_lv H 0 rfl rfl (getE (by omega)) ag78) ?_) | (refine s_run rfl rfl (r_lv H 1 rfl rfl (getE (by omega)) ag78) ?_) | (refine s_run rfl rfl (r_lv H 2 rfl rfl (getE (by omega)) ag78) ?_) | (refine s_run rfl rfl (r_lv H 3 rfl rfl (getE (by omega)) ag78) ?_) | (refine s_run rfl rfl (r_lv H 4 rfl rfl (getE (by omega)) ag78) ?_) | (refine s_run rfl rfl (r_lv H 5 rfl rfl (getE (by omega)) ag78) ?_) | (refine s_run rfl rfl (r_lv H 6 rfl rfl (getE (by omega)) ag78) ?_) | (refine s_run rfl rfl (r_lr H rfl (by assumption) (by simp) ag78) ?_) | fail
  refine s_run rfl rfl (rai rfl) ?_
  refine k_nc ?_
  refine k_ret ?_
  refine fin1r (v := .int _ _) rfl rfl ?_
  exact ⟨rfl, Only.refl _ _⟩
 ·rw [if_neg hin]
  by_cases h1 : a < 0
  ·refine k_in (N := 23) Try.func120 rfl rfl rfl ?_
   refine k_sg ?_
   refine s_run rfl rfl (rai rfl) ?_
   refine k_nc ?_
   refine k_seq ?_
   refine k_sg ?_
   refine s_run rfl rfl (rmi rfl) ?_
   refine s_run rfl rfl (r_lssT rfl rfl (by omega)) ?_
   refine s_run rfl rfl (rmb rfl) ?_
   refine s_off rfl (g_off 7 (by kernel_rfl) rfl rfl) ?_
   refine s_off rfl (g_off 7 (by kernel_rfl) rfl rfl) ?_
   refine s_off rfl (g_off 7 (by kernel_rfl) rfl rfl) ?_
   refine s_off rfl (g_off 7 (by kernel_rfl) rfl rfl) ?_
   refine s_off rfl (g_off 7 (by kernel_rfl) rfl rfl) ?_
   refine s_off rfl (g_off 7 (by kernel_rfl) rfl rfl) ?_
   refine s_off rfl (g_off 7 (by kernel_rfl) rfl rfl) ?_
   refine s_run rfl rfl (r_pkT (v := .bool _) rfl rfl) ?_
   refine k_nc ?_
   refine k_t rfl ?_
   refine k_sg ?_
   refine s_run rfl rfl (rai rfl) ?_
   refine k_nc ?_
   refine k_ret ?_
   refine c_ret ?_
   refine fin1r (v := .int _ _) rfl rfl ?_
   exact ⟨rfl, Only.refl _ _⟩
  ·refine k_in (N := 23) Try.func120 rfl rfl rfl ?_
   refine k_sg ?_
   refine s_run rfl rfl (rai rfl) ?_
   refine k_nc ?_
   refine k_seq ?_
   refine k_sg ?_
   refine s_run rfl rfl (rmi rfl) ?_
   refine s_run rfl rfl (r_lssF rfl rfl (by omega)) ?_
   refine s_run rfl rfl (rmb rfl) ?_
   refine s_run rfl (g_on 7 (by kernel_rfl) rfl) (rmi rfl) ?_
   refine s_run rfl (g_on 7 (by kernel_rfl) rfl) (rmp rfl) ?_
   refine s_run rfl (g_on 7 (by kernel_rfl) rfl) (r_nc rfl) ?_
   first | (refine s_run rfl (g_on 7 (by kernel_rfl) rfl) (r_fa0 rfl fo119_1) ?_) | (refine s_run rfl (g_on 7 (by kernel_rfl) rfl) (r_fa rfl fo119_1) ?_) | fail
   first | (refine s_run rfl (g_on 7 (by kernel_rfl) rfl) (r_lo H 0 rfl rfl rfl ag66) ?_) | (refine s_run rfl (g_on 7 (by kernel_rfl) rfl) (r_lo H 1 rfl rfl rfl ag66) ?_) | (refine s_run rfl (g_on 7 (by kernel_rfl) rfl) (r_lo H 2 rfl rfl rfl ag66) ?_) | (refine s_run rfl (g_on 7 (by kernel_rfl) rfl) (r_lo H 3 rfl rfl rfl ag66) ?_) | (refine s_run rfl (g_on 7 (by kernel_rfl) rfl) (r_lo H 4 rfl rfl rfl ag66) ?_) | (refine s_run rfl (g_on 7 (by kernel_rfl) rfl) (r_lo H 5 rfl rfl rfl ag66) ?_) | (refine s_run rfl (g_on 7 (by kernel_rfl) rfl) (r_lo H 6 rfl rfl rfl ag66) ?_) | (refine s_run rfl (g_on 7 (by kernel_rfl) rfl) (r_lv H 0 rfl rfl (by assumption) ag66) ?_) | (refine s_run rfl (g_on 7 (by kernel_rfl) rfl) (r_lv H 1 rfl rfl (by assumption) ag66) ?_) | (refine s_run rfl (g_on 7 (by kernel_rfl) rfl) (r_lv H 2 rfl rfl (by assumption) ag66) ?_) | (refine s_run rfl (g_on 7 (by kernel_rfl) rfl) (r_lv H 3 rfl rfl (by assumption) ag66) ?_) | (refine s_run rfl (g_on 7 (by kernel_rfl) rfl) (r_lv H 4 rfl rfl (by assumption) ag66) ?_) | (refine s_run rfl (g_on 7 (by kernel_rfl) rfl) (r_lv H 5 rfl rfl (by assumption) ag66) ?_) | (refine s_run rfl (g_on 7 (by kernel_rfl) rfl) (r_lv H 6 rfl rfl (by assumption) ag66) ?_) | (refine s_run rfl (g_on 7 (by kernel_rfl) rfl) (r_lv H 0 rfl rfl (getE (by omega)) ag66) ?_) | (refine s_run rfl (g_on 7 (by kernel_rfl) rfl) (r_lv H 1 rfl rfl (getE (by omega)) ag66) ?_) | (refine s_run rfl (g_on 7 (by kernel_rfl) rfl) (r_lv H 2 rfl rfl (getE (by omega)) ag66) ?_) | (refine s_run rfl (g_on 7 (by kernel_rfl) rfl) (r_lv H 3 rfl rfl (getE (by omega)) ag66) ?_) | (refine s_run rfl (g_on 7 (by kernel_rfl) rfl) (r_lv H 4 rfl rfl (getE (by omega)) ag66) ?_) | (refine s_run rfl (g_on 7 (by kernel_rfl) rfl) (r_lv H 5 rfl rfl (getE (by omega)) ag66) ?_) | (refine s_run rfl (g_on 7 (by kernel_rfl) rfl) (r_lv H 6 rfl rfl (getE (by omega)) ag66) ?_) | (refine s_run rfl (g_on 7 (by kernel_rfl) rfl) (r_lr H rfl (by assumption) (by simp) ag66) ?_) | fail
   refine s_run rfl (g_on 7 (by kernel_rfl) rfl) (r_len rfl Try.underlying66) ?_
   refine s_run rfl (g_on 7 (by kernel_rfl) rfl) (r_geqT rfl rfl (by omega)) ?_
   refine s_run rfl rfl (r_pkF (v := .bool _) rfl rfl) ?_
   refine k_nc ?_
   refine k_t rfl ?_
   refine k_sg ?_
   refine s_run rfl rfl (rai rfl) ?_
   refine k_nc ?_
   refine k_ret ?_
   refine c_ret ?_
   refine fin1r (v := .int _ _) rfl rfl ?_
   exact ⟨rfl, Only.refl _ _⟩
theorem nLen (g : Geo) (d : Nv.D) (w : World) (hE : Ents (devL g d) w) :
  Calls Try.prog 118 [ptr g.p].toArray w fun e w' => e = .returned (.int .i64 d.cache.length) ∧ Only [] w w' := by
 have H := Heap.start hE
 generalize hF : ids (devL g d) = F at H
 unfold devL devCells at H
 refine k_in (N := 8) Try.func118 rfl rfl rfl ?_
 refine k_sg ?_
 refine s_run rfl rfl (rai rfl) ?_
 refine k_nc ?_
 refine k_sg ?_
 refine s_run rfl rfl (rmp rfl) ?_
 refine s_run rfl rfl (r_nc rfl) ?_
 first | (refine s_run rfl rfl (r_fa0 rfl fo119_1) ?_) | (refine s_run rfl rfl (r_fa rfl fo119_1) ?_) | fail
 first | (refine s_run rfl rfl (r_lo H 0 rfl rfl rfl ag66) ?_) | (refine s_run rfl rfl (r_lo H 1 rfl rfl rfl ag66) ?_) | (refine s_run rfl rfl (r_lo H 2 rfl rfl rfl ag66) ?_) | (refine s_run rfl rfl (r_lo H 3 rfl rfl rfl ag66) ?_) | (refine s_run rfl rfl (r_lo H 4 rfl rfl rfl ag66) ?_) | (refine s_run rfl rfl (r_lo H 5 rfl rfl rfl ag66) ?_) | (refine s_run rfl rfl (r_lo H 6 rfl rfl rfl ag66) ?_) | (refine s_run rfl rfl (r_lv H 0 rfl rfl (by assumption) ag66) ?_) | (refine s_run rfl rfl (r_lv H 1 rfl rfl (by assumption) ag66) ?_) | (refine s_run rfl rfl (r_lv H 2 rfl rfl (by assumption) ag66) ?_) | (refine s_run rfl rfl (r_lv H 3 rfl rfl (by assumption) ag66) ?_) | (refine s_run rfl rfl (r_lv H 4 rfl rfl (by assumption) ag66) ?_) | (refine s_run rfl rfl (r_lv H 5 rfl rfl (by assumption) ag66) ?_) | (refine s_run rfl rfl (r_lv H 6 rfl rfl (by assumption) ag66) ?_) | (refine s_run rfl rfl (r_lv H 0 rfl rfl (getE (by omega)) ag66) ?_) | (refine s_run rfl rfl (r_lv H 1 rfl rfl (getE (by omega)) ag66) ?_) | (refine s_run rfl rfl (r_lv H 2 rfl rfl (getE (by omega)) ag66) ?_) | (refine s_run rfl rfl (r_lv H 3 rfl rfl (getE (by omega)) ag66) ?_) | (refine s_run rfl rfl (r_lv H 4 rfl rfl (getE (by omega)) ag66) ?_) | (refine s_run rfl rfl (r_lv H 5 rfl rfl (getE (by omega)) ag66) ?_) | (refine s_run rfl rfl (r_lv H 6 rfl rfl (getE (by omega)) ag66) ?_) | (refine s_run rfl rfl (r_lr H rfl (by assumption) (by simp) ag66) ?_) | fail
 refine s_run rfl rfl (r_len rfl Try.underlying66) ?_
 refine s_run rfl rfl (rai rfl) ?_
 refine k_nc ?_
 refine k_ret ?_
 refine fin1r (v := .int _ _) rfl rfl ?_
 exact ⟨rfl, Only.refl _ _⟩
end Go.Proofs.Ytlakbclnilakbaa
end

section
namespace Go.Proofs.Ytlakbclnilakbaa
open Go.RowKit
end Go.Proofs.Ytlakbclnilakbaa
end

section
namespace Go.Proofs.Ytlakbclnilakbaa
open Go.RowKit
theorem nClone (A : Addr) (n c : Nat) (zs : List Int) (w : World) (hz : Sees (Value.int .u64) w [] (some A) zs) (hl : zs.length = n) (hn : n ≤ 1000000) :
  Calls Try.prog 63 [.slice (some A) n c].toArray w fun e w' => ∃ b c', e = .returned (.slice (some ⟨b, 0, none⟩) n c') ∧ (n ≤ c' ∧ c' ≤ 9223372036854775807) ∧ Heap w [] [vec (Value.int .u64) b zs 78] w' := by
 have H := Heap.nil w
 refine k_in (N := 8) Try.func63 rfl rfl rfl ?_
 refine k_sg ?_
 refine s_run rfl rfl (ras rfl) ?_
 refine k_nc ?_
 refine k_seq ?_
 refine k_sg ?_
 refine s_run rfl rfl (rms rfl) ?_
 refine s_run rfl rfl (r_slnilF rfl rfl Try.underlying66) ?_
 refine k_nc ?_
 refine k_f rfl ?_
 refine k_skip ?_
 refine c_norm ?_
 refine k_sg ?_
 refine s_bs0 1 (by omega) H rfl Try.underlying66 inf78 ?_
 intro _ _ H'; clear H; have H := H'; clear H'
 refine s_run rfl rfl (rms rfl) ?_
 refine s_apps (enc := (Value.int .u64)) (xs := []) H 0 rfl rfl rfl rfl (hz) (hl) (fun _ => rfl) (by omega) Try.underlying66 inf78 rfl ?_
 intro A' c' _ hA H'; simp only [List.set_cons_zero, List.set_cons_succ, List.take_succ_cons, List.take_zero, List.drop_succ_cons, List.drop_zero, List.cons_append, List.nil_append, List.append_nil, List.length_cons, List.length_nil, Nat.reduceAdd] at H'; clear H; have H := H'; clear H'
 refine s_run rfl rfl (ras rfl) ?_
 refine k_nc ?_
 refine k_ret ?_
 refine fin1r (v := .slice _ _ _) rfl rfl ?_
 obtain ⟨b, rfl⟩ := hA (by simp)
 rw [Nat.zero_add] at H
 refine ⟨b, c', by rw [Nat.zero_add], ?_⟩
 by_cases h0 : 0 < n
 ·obtain ⟨b', c2, e1, e2, e3, H2⟩ := own_vec H h0
  injection e1 with e4 _ e5
  injection e4 with e4
  injection e4 with e4
  subst e4; subst e5
  unfold maxLen at e3
  exact ⟨⟨e2, e3⟩, H2⟩
 ·obtain rfl : n = 0 := by omega
  obtain rfl : zs = [] := List.eq_nil_of_length_eq_zero hl
  have ho := H.own_get 0 rfl
  have hb : (0 ≤ c' ∧ c' ≤ 9223372036854775807) := by
   rcases ho.2 with ⟨e, _⟩ | ⟨q, cap, cur, e, _, _, _, hcm, _⟩
   ·cases e
   ·injection e with _ _ e; subst e; unfold maxLen at hcm; omega
  exact ⟨hb, fun E hE => by (rw [List.mem_singleton.1 hE]; exact fun h => absurd rfl h), by simp [ids, vec], by simp [ids, vec], H.only⟩
theorem nload (b c m : Nat) (ws : List Int) (w : World) (hE : Ents [vec (Value.int .u64) b ws 78] w) (hl : ws.length = 8 * m) (hm : m ≤ 100000) (hc : 8 * m ≤ c ∧ c ≤ 9223372036854775807) :
  Calls Try.prog 89 [.slice (some ⟨b, 0, none⟩) (8 * m) c].toArray w fun e w' => ∃ g, e = .returned (ptr g.p) ∧ GOk g m ∧ Heap w (ids [vec (Value.int .u64) b ws 78]) (devL g (Nv.load ws m)) w' := by
 have H := Heap.start hE
 generalize hF : ids [vec (Value.int .u64) b ws 78] = F at H ⊢
 refine k_in (N := 19) Try.func89 rfl rfl rfl ?_
 refine k_sg ?_
 refine s_run rfl rfl (rap rfl) ?_
 refine k_nc ?_
 refine k_sg ?_
 refine s_run rfl rfl (rms rfl) ?_
 refine s_run rfl rfl (r_len rfl Try.underlying66) ?_
 refine s_run rfl rfl (r_quo rfl rfl (by omega) (wI (by omega))) ?_
 refine s_run rfl rfl (rai rfl) ?_
 refine k_nc ?_
 refine k_seq ?_
 refine k_cut (fun f' W' => ∃ p bc cc bf bd bp, (8 * m ≤ cc ∧ cc ≤ 9223372036854775807) ∧ f' 2 = ptr p ∧ Heap w F [blk p [.slice (some ⟨b, 0, none⟩) (8 * m) c, .slice (some ⟨bc, 0, none⟩) (8 * m) cc, .slice (some ⟨bf, 0, none⟩) (8 * m) (8 * m), .slice (some ⟨bd, 0, none⟩) m m, .slice (some ⟨bp, 0, none⟩) m m, .int .i64 0, .int .i64 0, .bool false, .bool false] 119, vec Value.bool bp (List.replicate m false) 4, vec Value.bool bd (List.replicate m false) 4, vec (Value.int .u64) bf (List.replicate (8 * m) 0) 78, vec (Value.int .u64) bc ws 78, vec (Value.int .u64) b ws 78] W') ?_ ?_
 ·have HR := H; clear H; have H := HR.tree; refine k_tr mixed ?_
  refine tqn 0 rfl rfl rfl (fun _ hS => r_mv (v := .slice _ _ _) rfl) H.only ?_
  refine tqn 1 rfl rfl rfl (fun _ hS => r_mv (v := .slice _ _ _) rfl) H.only ?_
  refine tqn 3 rfl rfl rfl (fun _ hS => r_mv (v := .slice _ _ _) rfl) H.only ?_
  refine tqn 4 rfl rfl rfl (fun _ hS => r_len rfl Try.underlying66) H.only ?_
  refine tqn 6 rfl rfl rfl (fun _ hS => r_mv (v := .int _ _) rfl) H.only ?_
  refine tqn 8 rfl rfl rfl (fun _ hS => r_mv (v := .int _ _) rfl) H.only ?_
  refine t_up4 2 5 7 9 (by kernel_rfl) ?_ ?_ ?_ ?_
  ·refine up_mk rfl ?_
   refine s_call rfl (nClone _ _ _ ws _ (fun _ => ⟨_, _, rfl, by simp, (HR.same H.only).reads0 0 rfl⟩) (by omega) (by omega)) (ca63 rfl) ?_
   rintro e W1 ⟨bc, cc, rfl, hcc, H'⟩
   refine ⟨_, rfl, ?_⟩
   have H := H.more H'; clear H'
   refine k_nil ?_
   refine t_on H.only ?_
   refine t_up3 5 7 9 (by kernel_rfl) ?_ ?_ ?_
   ·refine up_mk rfl ?_
    refine s_mk (Value.int .u64) 0 (m := (8 * m)) H rfl rfl rfl (by omega) (by omega) (by omega) Try.underlying66 inf78 rfl ?_
    intro bf _ H'; clear H; have H := H'; clear H'
    refine k_nil ?_
    refine t_on H.only ?_
    refine t_up2 7 9 (by kernel_rfl) ?_ ?_
    ·refine up_mk rfl ?_
     refine s_mk Value.bool false (m := m) H rfl rfl rfl (by omega) (by omega) (by omega) Try.underlying62 inf4 rfl ?_
     intro bd _ H'; clear H; have H := H'; clear H'
     refine k_nil ?_
     refine t_on H.only ?_
     refine t_up1 9 (by kernel_rfl) ?_
     refine up_mk rfl ?_
     refine s_mk Value.bool false (m := m) H rfl rfl rfl (by omega) (by omega) (by omega) Try.underlying62 inf4 rfl ?_
     intro bp _ H'; clear H; have H := H'; clear H'
     refine k_nil ?_
     refine t_on H.only ?_
     refine tqn 10 rfl rfl rfl (fun _ hS => r_bd (bd119_0_1_2_3_4 _ _ _ _ _ _ _ _ _ _ _ _ _ _ _) rfl) H.only ?_
     refine t_up1 11 (by kernel_rfl) ?_
     refine up_mk rfl ?_
     first | (refine s_box1 H rfl rfl rfl ?_) | (refine s_box H rfl rfl ?_) | fail
     intro p18 _ H'; clear H; have H := H'; clear H'
     refine k_nil ?_
     refine t_on H.only ?_
     refine tqn 12 rfl rfl rfl (fun _ hS => r_as (v := .pointer _) rfl) H.only ?_
     refine t_done (by kernel_rfl) ?_
     have H := HR.more H; clear HR; simp only [List.cons_append, List.nil_append] at H
     refine k_met ?_
     exact ⟨_, _, _, _, _, _, hcc, rfl, H⟩
    ·refine up_mk rfl ?_
     refine s_mk Value.bool false (m := m) H rfl rfl rfl (by omega) (by omega) (by omega) Try.underlying62 inf4 rfl ?_
     intro bp _ H'; clear H; have H := H'; clear H'
     refine k_nil ?_
     refine t_on H.only ?_
     refine t_up1 7 (by kernel_rfl) ?_
     refine up_mk rfl ?_
     refine s_mk Value.bool false (m := m) H rfl rfl rfl (by omega) (by omega) (by omega) Try.underlying62 inf4 rfl ?_
     intro bd _ H'; clear H; have H := H'; clear H'
     refine k_nil ?_
     refine t_on H.only ?_
     refine tqn 10 rfl rfl rfl (fun _ hS => r_bd (bd119_0_1_2_3_4 _ _ _ _ _ _ _ _ _ _ _ _ _ _ _) rfl) H.only ?_
     refine t_up1 11 (by kernel_rfl) ?_
     refine up_mk rfl ?_
     first | (refine s_box1 H rfl rfl rfl ?_) | (refine s_box H rfl rfl ?_) | fail
     intro p18 _ H'; clear H; have H := H'; clear H'
     refine k_nil ?_
     refine t_on H.only ?_
     refine tqn 12 rfl rfl rfl (fun _ hS => r_as (v := .pointer _) rfl) H.only ?_
     refine t_done (by kernel_rfl) ?_
     replace H := H.pick 4 rfl; simp only [jL, jM] at H
     replace H := H.pick 4 rfl; simp only [jL, jM] at H
     replace H := H.pick 3 rfl; simp only [jL, jM] at H
     replace H := H.pick 4 rfl; simp only [jL, jM] at H
     replace H := H.pick 4 rfl; simp only [jL, jM] at H
     have H := HR.more H; clear HR; simp only [List.cons_append, List.nil_append] at H
     refine k_met ?_
     exact ⟨_, _, _, _, _, _, hcc, rfl, H⟩
   ·refine up_mk rfl ?_
    refine s_mk Value.bool false (m := m) H rfl rfl rfl (by omega) (by omega) (by omega) Try.underlying62 inf4 rfl ?_
    intro bd _ H'; clear H; have H := H'; clear H'
    refine k_nil ?_
    refine t_on H.only ?_
    refine t_up2 5 9 (by kernel_rfl) ?_ ?_
    ·refine up_mk rfl ?_
     refine s_mk (Value.int .u64) 0 (m := (8 * m)) H rfl rfl rfl (by omega) (by omega) (by omega) Try.underlying66 inf78 rfl ?_
     intro bf _ H'; clear H; have H := H'; clear H'
     refine k_nil ?_
     refine t_on H.only ?_
     refine t_up1 9 (by kernel_rfl) ?_
     refine up_mk rfl ?_
     refine s_mk Value.bool false (m := m) H rfl rfl rfl (by omega) (by omega) (by omega) Try.underlying62 inf4 rfl ?_
     intro bp _ H'; clear H; have H := H'; clear H'
     refine k_nil ?_
     refine t_on H.only ?_
     refine tqn 10 rfl rfl rfl (fun _ hS => r_bd (bd119_0_1_2_3_4 _ _ _ _ _ _ _ _ _ _ _ _ _ _ _) rfl) H.only ?_
     refine t_up1 11 (by kernel_rfl) ?_
     refine up_mk rfl ?_
     first | (refine s_box1 H rfl rfl rfl ?_) | (refine s_box H rfl rfl ?_) | fail
     intro p18 _ H'; clear H; have H := H'; clear H'
     refine k_nil ?_
     refine t_on H.only ?_
     refine tqn 12 rfl rfl rfl (fun _ hS => r_as (v := .pointer _) rfl) H.only ?_
     refine t_done (by kernel_rfl) ?_
     replace H := H.pick 4 rfl; simp only [jL, jM] at H
     replace H := H.pick 3 rfl; simp only [jL, jM] at H
     replace H := H.pick 4 rfl; simp only [jL, jM] at H
     replace H := H.pick 4 rfl; simp only [jL, jM] at H
     replace H := H.pick 4 rfl; simp only [jL, jM] at H
     have H := HR.more H; clear HR; simp only [List.cons_append, List.nil_append] at H
     refine k_met ?_
     exact ⟨_, _, _, _, _, _, hcc, rfl, H⟩
    ·refine up_mk rfl ?_
     refine s_mk Value.bool false (m := m) H rfl rfl rfl (by omega) (by omega) (by omega) Try.underlying62 inf4 rfl ?_
     intro bp _ H'; clear H; have H := H'; clear H'
     refine k_nil ?_
     refine t_on H.only ?_
     refine t_up1 5 (by kernel_rfl) ?_
     refine up_mk rfl ?_
     refine s_mk (Value.int .u64) 0 (m := (8 * m)) H rfl rfl rfl (by omega) (by omega) (by omega) Try.underlying66 inf78 rfl ?_
     intro bf _ H'; clear H; have H := H'; clear H'
     refine k_nil ?_
     refine t_on H.only ?_
     refine tqn 10 rfl rfl rfl (fun _ hS => r_bd (bd119_0_1_2_3_4 _ _ _ _ _ _ _ _ _ _ _ _ _ _ _) rfl) H.only ?_
     refine t_up1 11 (by kernel_rfl) ?_
     refine up_mk rfl ?_
     first | (refine s_box1 H rfl rfl rfl ?_) | (refine s_box H rfl rfl ?_) | fail
     intro p18 _ H'; clear H; have H := H'; clear H'
     refine k_nil ?_
     refine t_on H.only ?_
     refine tqn 12 rfl rfl rfl (fun _ hS => r_as (v := .pointer _) rfl) H.only ?_
     refine t_done (by kernel_rfl) ?_
     replace H := H.pick 4 rfl; simp only [jL, jM] at H
     replace H := H.pick 2 rfl; simp only [jL, jM] at H
     replace H := H.pick 4 rfl; simp only [jL, jM] at H
     replace H := H.pick 4 rfl; simp only [jL, jM] at H
     replace H := H.pick 4 rfl; simp only [jL, jM] at H
     have H := HR.more H; clear HR; simp only [List.cons_append, List.nil_append] at H
     refine k_met ?_
     exact ⟨_, _, _, _, _, _, hcc, rfl, H⟩
   ·refine up_mk rfl ?_
    refine s_mk Value.bool false (m := m) H rfl rfl rfl (by omega) (by omega) (by omega) Try.underlying62 inf4 rfl ?_
    intro bp _ H'; clear H; have H := H'; clear H'
    refine k_nil ?_
    refine t_on H.only ?_
    refine t_up2 5 7 (by kernel_rfl) ?_ ?_
    ·refine up_mk rfl ?_
     refine s_mk (Value.int .u64) 0 (m := (8 * m)) H rfl rfl rfl (by omega) (by omega) (by omega) Try.underlying66 inf78 rfl ?_
     intro bf _ H'; clear H; have H := H'; clear H'
     refine k_nil ?_
     refine t_on H.only ?_
     refine t_up1 7 (by kernel_rfl) ?_
     refine up_mk rfl ?_
     refine s_mk Value.bool false (m := m) H rfl rfl rfl (by omega) (by omega) (by omega) Try.underlying62 inf4 rfl ?_
     intro bd _ H'; clear H; have H := H'; clear H'
     refine k_nil ?_
     refine t_on H.only ?_
     refine tqn 10 rfl rfl rfl (fun _ hS => r_bd (bd119_0_1_2_3_4 _ _ _ _ _ _ _ _ _ _ _ _ _ _ _) rfl) H.only ?_
     refine t_up1 11 (by kernel_rfl) ?_
     refine up_mk rfl ?_
     first | (refine s_box1 H rfl rfl rfl ?_) | (refine s_box H rfl rfl ?_) | fail
     intro p18 _ H'; clear H; have H := H'; clear H'
     refine k_nil ?_
     refine t_on H.only ?_
     refine tqn 12 rfl rfl rfl (fun _ hS => r_as (v := .pointer _) rfl) H.only ?_
     refine t_done (by kernel_rfl) ?_
     replace H := H.pick 4 rfl; simp only [jL, jM] at H
     replace H := H.pick 3 rfl; simp only [jL, jM] at H
     replace H := H.pick 3 rfl; simp only [jL, jM] at H
     replace H := H.pick 4 rfl; simp only [jL, jM] at H
     replace H := H.pick 4 rfl; simp only [jL, jM] at H
     have H := HR.more H; clear HR; simp only [List.cons_append, List.nil_append] at H
     refine k_met ?_
     exact ⟨_, _, _, _, _, _, hcc, rfl, H⟩
    ·refine up_mk rfl ?_
     refine s_mk Value.bool false (m := m) H rfl rfl rfl (by omega) (by omega) (by omega) Try.underlying62 inf4 rfl ?_
     intro bd _ H'; clear H; have H := H'; clear H'
     refine k_nil ?_
     refine t_on H.only ?_
     refine t_up1 5 (by kernel_rfl) ?_
     refine up_mk rfl ?_
     refine s_mk (Value.int .u64) 0 (m := (8 * m)) H rfl rfl rfl (by omega) (by omega) (by omega) Try.underlying66 inf78 rfl ?_
     intro bf _ H'; clear H; have H := H'; clear H'
     refine k_nil ?_
     refine t_on H.only ?_
     refine tqn 10 rfl rfl rfl (fun _ hS => r_bd (bd119_0_1_2_3_4 _ _ _ _ _ _ _ _ _ _ _ _ _ _ _) rfl) H.only ?_
     refine t_up1 11 (by kernel_rfl) ?_
     refine up_mk rfl ?_
     first | (refine s_box1 H rfl rfl rfl ?_) | (refine s_box H rfl rfl ?_) | fail
     intro p18 _ H'; clear H; have H := H'; clear H'
     refine k_nil ?_
     refine t_on H.only ?_
     refine tqn 12 rfl rfl rfl (fun _ hS => r_as (v := .pointer _) rfl) H.only ?_
     refine t_done (by kernel_rfl) ?_
     replace H := H.pick 4 rfl; simp only [jL, jM] at H
     replace H := H.pick 2 rfl; simp only [jL, jM] at H
     replace H := H.pick 3 rfl; simp only [jL, jM] at H
     replace H := H.pick 4 rfl; simp only [jL, jM] at H
     replace H := H.pick 4 rfl; simp only [jL, jM] at H
     have H := HR.more H; clear HR; simp only [List.cons_append, List.nil_append] at H
     refine k_met ?_
     exact ⟨_, _, _, _, _, _, hcc, rfl, H⟩
  ·refine up_mk rfl ?_
   refine s_mk (Value.int .u64) 0 (m := (8 * m)) H rfl rfl rfl (by omega) (by omega) (by omega) Try.underlying66 inf78 rfl ?_
   intro bf _ H'; clear H; have H := H'; clear H'
   refine k_nil ?_
   refine t_on H.only ?_
   refine t_up3 2 7 9 (by kernel_rfl) ?_ ?_ ?_
   ·refine up_mk rfl ?_
    refine s_call rfl (nClone _ _ _ ws _ (fun _ => ⟨_, _, rfl, by simp, (HR.same H.only).reads0 0 rfl⟩) (by omega) (by omega)) (ca63 rfl) ?_
    rintro e W1 ⟨bc, cc, rfl, hcc, H'⟩
    refine ⟨_, rfl, ?_⟩
    have H := H.more H'; clear H'
    refine k_nil ?_
    refine t_on H.only ?_
    refine t_up2 7 9 (by kernel_rfl) ?_ ?_
    ·refine up_mk rfl ?_
     refine s_mk Value.bool false (m := m) H rfl rfl rfl (by omega) (by omega) (by omega) Try.underlying62 inf4 rfl ?_
     intro bd _ H'; clear H; have H := H'; clear H'
     refine k_nil ?_
     refine t_on H.only ?_
     refine t_up1 9 (by kernel_rfl) ?_
     refine up_mk rfl ?_
     refine s_mk Value.bool false (m := m) H rfl rfl rfl (by omega) (by omega) (by omega) Try.underlying62 inf4 rfl ?_
     intro bp _ H'; clear H; have H := H'; clear H'
     refine k_nil ?_
     refine t_on H.only ?_
     refine tqn 10 rfl rfl rfl (fun _ hS => r_bd (bd119_0_1_2_3_4 _ _ _ _ _ _ _ _ _ _ _ _ _ _ _) rfl) H.only ?_
     refine t_up1 11 (by kernel_rfl) ?_
     refine up_mk rfl ?_
     first | (refine s_box1 H rfl rfl rfl ?_) | (refine s_box H rfl rfl ?_) | fail
     intro p18 _ H'; clear H; have H := H'; clear H'
     refine k_nil ?_
     refine t_on H.only ?_
     refine tqn 12 rfl rfl rfl (fun _ hS => r_as (v := .pointer _) rfl) H.only ?_
     refine t_done (by kernel_rfl) ?_
     replace H := H.pick 3 rfl; simp only [jL, jM] at H
     replace H := H.pick 4 rfl; simp only [jL, jM] at H
     replace H := H.pick 4 rfl; simp only [jL, jM] at H
     replace H := H.pick 4 rfl; simp only [jL, jM] at H
     replace H := H.pick 4 rfl; simp only [jL, jM] at H
     have H := HR.more H; clear HR; simp only [List.cons_append, List.nil_append] at H
     refine k_met ?_
     exact ⟨_, _, _, _, _, _, hcc, rfl, H⟩
    ·refine up_mk rfl ?_
     refine s_mk Value.bool false (m := m) H rfl rfl rfl (by omega) (by omega) (by omega) Try.underlying62 inf4 rfl ?_
     intro bp _ H'; clear H; have H := H'; clear H'
     refine k_nil ?_
     refine t_on H.only ?_
     refine t_up1 7 (by kernel_rfl) ?_
     refine up_mk rfl ?_
     refine s_mk Value.bool false (m := m) H rfl rfl rfl (by omega) (by omega) (by omega) Try.underlying62 inf4 rfl ?_
     intro bd _ H'; clear H; have H := H'; clear H'
     refine k_nil ?_
     refine t_on H.only ?_
     refine tqn 10 rfl rfl rfl (fun _ hS => r_bd (bd119_0_1_2_3_4 _ _ _ _ _ _ _ _ _ _ _ _ _ _ _) rfl) H.only ?_
     refine t_up1 11 (by kernel_rfl) ?_
     refine up_mk rfl ?_
     first | (refine s_box1 H rfl rfl rfl ?_) | (refine s_box H rfl rfl ?_) | fail
     intro p18 _ H'; clear H; have H := H'; clear H'
     refine k_nil ?_
     refine t_on H.only ?_
     refine tqn 12 rfl rfl rfl (fun _ hS => r_as (v := .pointer _) rfl) H.only ?_
     refine t_done (by kernel_rfl) ?_
     replace H := H.pick 3 rfl; simp only [jL, jM] at H
     replace H := H.pick 4 rfl; simp only [jL, jM] at H
     replace H := H.pick 3 rfl; simp only [jL, jM] at H
     replace H := H.pick 4 rfl; simp only [jL, jM] at H
     replace H := H.pick 4 rfl; simp only [jL, jM] at H
     have H := HR.more H; clear HR; simp only [List.cons_append, List.nil_append] at H
     refine k_met ?_
     exact ⟨_, _, _, _, _, _, hcc, rfl, H⟩
   ·refine up_mk rfl ?_
    refine s_mk Value.bool false (m := m) H rfl rfl rfl (by omega) (by omega) (by omega) Try.underlying62 inf4 rfl ?_
    intro bd _ H'; clear H; have H := H'; clear H'
    refine k_nil ?_
    refine t_on H.only ?_
    refine t_up2 2 9 (by kernel_rfl) ?_ ?_
    ·refine up_mk rfl ?_
     refine s_call rfl (nClone _ _ _ ws _ (fun _ => ⟨_, _, rfl, by simp, (HR.same H.only).reads0 0 rfl⟩) (by omega) (by omega)) (ca63 rfl) ?_
     rintro e W1 ⟨bc, cc, rfl, hcc, H'⟩
     refine ⟨_, rfl, ?_⟩
     have H := H.more H'; clear H'
     refine k_nil ?_
     refine t_on H.only ?_
     refine t_up1 9 (by kernel_rfl) ?_
     refine up_mk rfl ?_
     refine s_mk Value.bool false (m := m) H rfl rfl rfl (by omega) (by omega) (by omega) Try.underlying62 inf4 rfl ?_
     intro bp _ H'; clear H; have H := H'; clear H'
     refine k_nil ?_
     refine t_on H.only ?_
     refine tqn 10 rfl rfl rfl (fun _ hS => r_bd (bd119_0_1_2_3_4 _ _ _ _ _ _ _ _ _ _ _ _ _ _ _) rfl) H.only ?_
     refine t_up1 11 (by kernel_rfl) ?_
     refine up_mk rfl ?_
     first | (refine s_box1 H rfl rfl rfl ?_) | (refine s_box H rfl rfl ?_) | fail
     intro p18 _ H'; clear H; have H := H'; clear H'
     refine k_nil ?_
     refine t_on H.only ?_
     refine tqn 12 rfl rfl rfl (fun _ hS => r_as (v := .pointer _) rfl) H.only ?_
     refine t_done (by kernel_rfl) ?_
     replace H := H.pick 2 rfl; simp only [jL, jM] at H
     replace H := H.pick 4 rfl; simp only [jL, jM] at H
     replace H := H.pick 4 rfl; simp only [jL, jM] at H
     replace H := H.pick 4 rfl; simp only [jL, jM] at H
     replace H := H.pick 4 rfl; simp only [jL, jM] at H
     have H := HR.more H; clear HR; simp only [List.cons_append, List.nil_append] at H
     refine k_met ?_
     exact ⟨_, _, _, _, _, _, hcc, rfl, H⟩
    ·refine up_mk rfl ?_
     refine s_mk Value.bool false (m := m) H rfl rfl rfl (by omega) (by omega) (by omega) Try.underlying62 inf4 rfl ?_
     intro bp _ H'; clear H; have H := H'; clear H'
     refine k_nil ?_
     refine t_on H.only ?_
     refine t_up1 2 (by kernel_rfl) ?_
     refine up_mk rfl ?_
     refine s_call rfl (nClone _ _ _ ws _ (fun _ => ⟨_, _, rfl, by simp, (HR.same H.only).reads0 0 rfl⟩) (by omega) (by omega)) (ca63 rfl) ?_
     rintro e W1 ⟨bc, cc, rfl, hcc, H'⟩
     refine ⟨_, rfl, ?_⟩
     have H := H.more H'; clear H'
     refine k_nil ?_
     refine t_on H.only ?_
     refine tqn 10 rfl rfl rfl (fun _ hS => r_bd (bd119_0_1_2_3_4 _ _ _ _ _ _ _ _ _ _ _ _ _ _ _) rfl) H.only ?_
     refine t_up1 11 (by kernel_rfl) ?_
     refine up_mk rfl ?_
     first | (refine s_box1 H rfl rfl rfl ?_) | (refine s_box H rfl rfl ?_) | fail
     intro p18 _ H'; clear H; have H := H'; clear H'
     refine k_nil ?_
     refine t_on H.only ?_
     refine tqn 12 rfl rfl rfl (fun _ hS => r_as (v := .pointer _) rfl) H.only ?_
     refine t_done (by kernel_rfl) ?_
     replace H := H.pick 1 rfl; simp only [jL, jM] at H
     replace H := H.pick 4 rfl; simp only [jL, jM] at H
     replace H := H.pick 4 rfl; simp only [jL, jM] at H
     replace H := H.pick 4 rfl; simp only [jL, jM] at H
     replace H := H.pick 4 rfl; simp only [jL, jM] at H
     have H := HR.more H; clear HR; simp only [List.cons_append, List.nil_append] at H
     refine k_met ?_
     exact ⟨_, _, _, _, _, _, hcc, rfl, H⟩
   ·refine up_mk rfl ?_
    refine s_mk Value.bool false (m := m) H rfl rfl rfl (by omega) (by omega) (by omega) Try.underlying62 inf4 rfl ?_
    intro bp _ H'; clear H; have H := H'; clear H'
    refine k_nil ?_
    refine t_on H.only ?_
    refine t_up2 2 7 (by kernel_rfl) ?_ ?_
    ·refine up_mk rfl ?_
     refine s_call rfl (nClone _ _ _ ws _ (fun _ => ⟨_, _, rfl, by simp, (HR.same H.only).reads0 0 rfl⟩) (by omega) (by omega)) (ca63 rfl) ?_
     rintro e W1 ⟨bc, cc, rfl, hcc, H'⟩
     refine ⟨_, rfl, ?_⟩
     have H := H.more H'; clear H'
     refine k_nil ?_
     refine t_on H.only ?_
     refine t_up1 7 (by kernel_rfl) ?_
     refine up_mk rfl ?_
     refine s_mk Value.bool false (m := m) H rfl rfl rfl (by omega) (by omega) (by omega) Try.underlying62 inf4 rfl ?_
     intro bd _ H'; clear H; have H := H'; clear H'
     refine k_nil ?_
     refine t_on H.only ?_
     refine tqn 10 rfl rfl rfl (fun _ hS => r_bd (bd119_0_1_2_3_4 _ _ _ _ _ _ _ _ _ _ _ _ _ _ _) rfl) H.only ?_
     refine t_up1 11 (by kernel_rfl) ?_
     refine up_mk rfl ?_
     first | (refine s_box1 H rfl rfl rfl ?_) | (refine s_box H rfl rfl ?_) | fail
     intro p18 _ H'; clear H; have H := H'; clear H'
     refine k_nil ?_
     refine t_on H.only ?_
     refine tqn 12 rfl rfl rfl (fun _ hS => r_as (v := .pointer _) rfl) H.only ?_
     refine t_done (by kernel_rfl) ?_
     replace H := H.pick 2 rfl; simp only [jL, jM] at H
     replace H := H.pick 4 rfl; simp only [jL, jM] at H
     replace H := H.pick 3 rfl; simp only [jL, jM] at H
     replace H := H.pick 4 rfl; simp only [jL, jM] at H
     replace H := H.pick 4 rfl; simp only [jL, jM] at H
     have H := HR.more H; clear HR; simp only [List.cons_append, List.nil_append] at H
     refine k_met ?_
     exact ⟨_, _, _, _, _, _, hcc, rfl, H⟩
    ·refine up_mk rfl ?_
     refine s_mk Value.bool false (m := m) H rfl rfl rfl (by omega) (by omega) (by omega) Try.underlying62 inf4 rfl ?_
     intro bd _ H'; clear H; have H := H'; clear H'
     refine k_nil ?_
     refine t_on H.only ?_
     refine t_up1 2 (by kernel_rfl) ?_
     refine up_mk rfl ?_
     refine s_call rfl (nClone _ _ _ ws _ (fun _ => ⟨_, _, rfl, by simp, (HR.same H.only).reads0 0 rfl⟩) (by omega) (by omega)) (ca63 rfl) ?_
     rintro e W1 ⟨bc, cc, rfl, hcc, H'⟩
     refine ⟨_, rfl, ?_⟩
     have H := H.more H'; clear H'
     refine k_nil ?_
     refine t_on H.only ?_
     refine tqn 10 rfl rfl rfl (fun _ hS => r_bd (bd119_0_1_2_3_4 _ _ _ _ _ _ _ _ _ _ _ _ _ _ _) rfl) H.only ?_
     refine t_up1 11 (by kernel_rfl) ?_
     refine up_mk rfl ?_
     first | (refine s_box1 H rfl rfl rfl ?_) | (refine s_box H rfl rfl ?_) | fail
     intro p18 _ H'; clear H; have H := H'; clear H'
     refine k_nil ?_
     refine t_on H.only ?_
     refine tqn 12 rfl rfl rfl (fun _ hS => r_as (v := .pointer _) rfl) H.only ?_
     refine t_done (by kernel_rfl) ?_
     replace H := H.pick 1 rfl; simp only [jL, jM] at H
     replace H := H.pick 4 rfl; simp only [jL, jM] at H
     replace H := H.pick 3 rfl; simp only [jL, jM] at H
     replace H := H.pick 4 rfl; simp only [jL, jM] at H
     replace H := H.pick 4 rfl; simp only [jL, jM] at H
     have H := HR.more H; clear HR; simp only [List.cons_append, List.nil_append] at H
     refine k_met ?_
     exact ⟨_, _, _, _, _, _, hcc, rfl, H⟩
  ·refine up_mk rfl ?_
   refine s_mk Value.bool false (m := m) H rfl rfl rfl (by omega) (by omega) (by omega) Try.underlying62 inf4 rfl ?_
   intro bd _ H'; clear H; have H := H'; clear H'
   refine k_nil ?_
   refine t_on H.only ?_
   refine t_up3 2 5 9 (by kernel_rfl) ?_ ?_ ?_
   ·refine up_mk rfl ?_
    refine s_call rfl (nClone _ _ _ ws _ (fun _ => ⟨_, _, rfl, by simp, (HR.same H.only).reads0 0 rfl⟩) (by omega) (by omega)) (ca63 rfl) ?_
    rintro e W1 ⟨bc, cc, rfl, hcc, H'⟩
    refine ⟨_, rfl, ?_⟩
    have H := H.more H'; clear H'
    refine k_nil ?_
    refine t_on H.only ?_
    refine t_up2 5 9 (by kernel_rfl) ?_ ?_
    ·refine up_mk rfl ?_
     refine s_mk (Value.int .u64) 0 (m := (8 * m)) H rfl rfl rfl (by omega) (by omega) (by omega) Try.underlying66 inf78 rfl ?_
     intro bf _ H'; clear H; have H := H'; clear H'
     refine k_nil ?_
     refine t_on H.only ?_
     refine t_up1 9 (by kernel_rfl) ?_
     refine up_mk rfl ?_
     refine s_mk Value.bool false (m := m) H rfl rfl rfl (by omega) (by omega) (by omega) Try.underlying62 inf4 rfl ?_
     intro bp _ H'; clear H; have H := H'; clear H'
     refine k_nil ?_
     refine t_on H.only ?_
     refine tqn 10 rfl rfl rfl (fun _ hS => r_bd (bd119_0_1_2_3_4 _ _ _ _ _ _ _ _ _ _ _ _ _ _ _) rfl) H.only ?_
     refine t_up1 11 (by kernel_rfl) ?_
     refine up_mk rfl ?_
     first | (refine s_box1 H rfl rfl rfl ?_) | (refine s_box H rfl rfl ?_) | fail
     intro p18 _ H'; clear H; have H := H'; clear H'
     refine k_nil ?_
     refine t_on H.only ?_
     refine tqn 12 rfl rfl rfl (fun _ hS => r_as (v := .pointer _) rfl) H.only ?_
     refine t_done (by kernel_rfl) ?_
     replace H := H.pick 3 rfl; simp only [jL, jM] at H
     replace H := H.pick 3 rfl; simp only [jL, jM] at H
     replace H := H.pick 4 rfl; simp only [jL, jM] at H
     replace H := H.pick 4 rfl; simp only [jL, jM] at H
     replace H := H.pick 4 rfl; simp only [jL, jM] at H
     have H := HR.more H; clear HR; simp only [List.cons_append, List.nil_append] at H
     refine k_met ?_
     exact ⟨_, _, _, _, _, _, hcc, rfl, H⟩
    ·refine up_mk rfl ?_
     refine s_mk Value.bool false (m := m) H rfl rfl rfl (by omega) (by omega) (by omega) Try.underlying62 inf4 rfl ?_
     intro bp _ H'; clear H; have H := H'; clear H'
     refine k_nil ?_
     refine t_on H.only ?_
     refine t_up1 5 (by kernel_rfl) ?_
     refine up_mk rfl ?_
     refine s_mk (Value.int .u64) 0 (m := (8 * m)) H rfl rfl rfl (by omega) (by omega) (by omega) Try.underlying66 inf78 rfl ?_
     intro bf _ H'; clear H; have H := H'; clear H'
     refine k_nil ?_
     refine t_on H.only ?_
     refine tqn 10 rfl rfl rfl (fun _ hS => r_bd (bd119_0_1_2_3_4 _ _ _ _ _ _ _ _ _ _ _ _ _ _ _) rfl) H.only ?_
     refine t_up1 11 (by kernel_rfl) ?_
     refine up_mk rfl ?_
     first | (refine s_box1 H rfl rfl rfl ?_) | (refine s_box H rfl rfl ?_) | fail
     intro p18 _ H'; clear H; have H := H'; clear H'
     refine k_nil ?_
     refine t_on H.only ?_
     refine tqn 12 rfl rfl rfl (fun _ hS => r_as (v := .pointer _) rfl) H.only ?_
     refine t_done (by kernel_rfl) ?_
     replace H := H.pick 3 rfl; simp only [jL, jM] at H
     replace H := H.pick 2 rfl; simp only [jL, jM] at H
     replace H := H.pick 4 rfl; simp only [jL, jM] at H
     replace H := H.pick 4 rfl; simp only [jL, jM] at H
     replace H := H.pick 4 rfl; simp only [jL, jM] at H
     have H := HR.more H; clear HR; simp only [List.cons_append, List.nil_append] at H
     refine k_met ?_
     exact ⟨_, _, _, _, _, _, hcc, rfl, H⟩
   ·refine up_mk rfl ?_
    refine s_mk (Value.int .u64) 0 (m := (8 * m)) H rfl rfl rfl (by omega) (by omega) (by omega) Try.underlying66 inf78 rfl ?_
    intro bf _ H'; clear H; have H := H'; clear H'
    refine k_nil ?_
    refine t_on H.only ?_
    refine t_up2 2 9 (by kernel_rfl) ?_ ?_
    ·refine up_mk rfl ?_
     refine s_call rfl (nClone _ _ _ ws _ (fun _ => ⟨_, _, rfl, by simp, (HR.same H.only).reads0 0 rfl⟩) (by omega) (by omega)) (ca63 rfl) ?_
     rintro e W1 ⟨bc, cc, rfl, hcc, H'⟩
     refine ⟨_, rfl, ?_⟩
     have H := H.more H'; clear H'
     refine k_nil ?_
     refine t_on H.only ?_
     refine t_up1 9 (by kernel_rfl) ?_
     refine up_mk rfl ?_
     refine s_mk Value.bool false (m := m) H rfl rfl rfl (by omega) (by omega) (by omega) Try.underlying62 inf4 rfl ?_
     intro bp _ H'; clear H; have H := H'; clear H'
     refine k_nil ?_
     refine t_on H.only ?_
     refine tqn 10 rfl rfl rfl (fun _ hS => r_bd (bd119_0_1_2_3_4 _ _ _ _ _ _ _ _ _ _ _ _ _ _ _) rfl) H.only ?_
     refine t_up1 11 (by kernel_rfl) ?_
     refine up_mk rfl ?_
     first | (refine s_box1 H rfl rfl rfl ?_) | (refine s_box H rfl rfl ?_) | fail
     intro p18 _ H'; clear H; have H := H'; clear H'
     refine k_nil ?_
     refine t_on H.only ?_
     refine tqn 12 rfl rfl rfl (fun _ hS => r_as (v := .pointer _) rfl) H.only ?_
     refine t_done (by kernel_rfl) ?_
     replace H := H.pick 2 rfl; simp only [jL, jM] at H
     replace H := H.pick 3 rfl; simp only [jL, jM] at H
     replace H := H.pick 4 rfl; simp only [jL, jM] at H
     replace H := H.pick 4 rfl; simp only [jL, jM] at H
     replace H := H.pick 4 rfl; simp only [jL, jM] at H
     have H := HR.more H; clear HR; simp only [List.cons_append, List.nil_append] at H
     refine k_met ?_
     exact ⟨_, _, _, _, _, _, hcc, rfl, H⟩
    ·refine up_mk rfl ?_
     refine s_mk Value.bool false (m := m) H rfl rfl rfl (by omega) (by omega) (by omega) Try.underlying62 inf4 rfl ?_
     intro bp _ H'; clear H; have H := H'; clear H'
     refine k_nil ?_
     refine t_on H.only ?_
     refine t_up1 2 (by kernel_rfl) ?_
     refine up_mk rfl ?_
     refine s_call rfl (nClone _ _ _ ws _ (fun _ => ⟨_, _, rfl, by simp, (HR.same H.only).reads0 0 rfl⟩) (by omega) (by omega)) (ca63 rfl) ?_
     rintro e W1 ⟨bc, cc, rfl, hcc, H'⟩
     refine ⟨_, rfl, ?_⟩
     have H := H.more H'; clear H'
     refine k_nil ?_
     refine t_on H.only ?_
     refine tqn 10 rfl rfl rfl (fun _ hS => r_bd (bd119_0_1_2_3_4 _ _ _ _ _ _ _ _ _ _ _ _ _ _ _) rfl) H.only ?_
     refine t_up1 11 (by kernel_rfl) ?_
     refine up_mk rfl ?_
     first | (refine s_box1 H rfl rfl rfl ?_) | (refine s_box H rfl rfl ?_) | fail
     intro p18 _ H'; clear H; have H := H'; clear H'
     refine k_nil ?_
     refine t_on H.only ?_
     refine tqn 12 rfl rfl rfl (fun _ hS => r_as (v := .pointer _) rfl) H.only ?_
     refine t_done (by kernel_rfl) ?_
     replace H := H.pick 1 rfl; simp only [jL, jM] at H
     replace H := H.pick 3 rfl; simp only [jL, jM] at H
     replace H := H.pick 4 rfl; simp only [jL, jM] at H
     replace H := H.pick 4 rfl; simp only [jL, jM] at H
     replace H := H.pick 4 rfl; simp only [jL, jM] at H
     have H := HR.more H; clear HR; simp only [List.cons_append, List.nil_append] at H
     refine k_met ?_
     exact ⟨_, _, _, _, _, _, hcc, rfl, H⟩
   ·refine up_mk rfl ?_
    refine s_mk Value.bool false (m := m) H rfl rfl rfl (by omega) (by omega) (by omega) Try.underlying62 inf4 rfl ?_
    intro bp _ H'; clear H; have H := H'; clear H'
    refine k_nil ?_
    refine t_on H.only ?_
    refine t_up2 2 5 (by kernel_rfl) ?_ ?_
    ·refine up_mk rfl ?_
     refine s_call rfl (nClone _ _ _ ws _ (fun _ => ⟨_, _, rfl, by simp, (HR.same H.only).reads0 0 rfl⟩) (by omega) (by omega)) (ca63 rfl) ?_
     rintro e W1 ⟨bc, cc, rfl, hcc, H'⟩
     refine ⟨_, rfl, ?_⟩
     have H := H.more H'; clear H'
     refine k_nil ?_
     refine t_on H.only ?_
     refine t_up1 5 (by kernel_rfl) ?_
     refine up_mk rfl ?_
     refine s_mk (Value.int .u64) 0 (m := (8 * m)) H rfl rfl rfl (by omega) (by omega) (by omega) Try.underlying66 inf78 rfl ?_
     intro bf _ H'; clear H; have H := H'; clear H'
     refine k_nil ?_
     refine t_on H.only ?_
     refine tqn 10 rfl rfl rfl (fun _ hS => r_bd (bd119_0_1_2_3_4 _ _ _ _ _ _ _ _ _ _ _ _ _ _ _) rfl) H.only ?_
     refine t_up1 11 (by kernel_rfl) ?_
     refine up_mk rfl ?_
     first | (refine s_box1 H rfl rfl rfl ?_) | (refine s_box H rfl rfl ?_) | fail
     intro p18 _ H'; clear H; have H := H'; clear H'
     refine k_nil ?_
     refine t_on H.only ?_
     refine tqn 12 rfl rfl rfl (fun _ hS => r_as (v := .pointer _) rfl) H.only ?_
     refine t_done (by kernel_rfl) ?_
     replace H := H.pick 2 rfl; simp only [jL, jM] at H
     replace H := H.pick 2 rfl; simp only [jL, jM] at H
     replace H := H.pick 4 rfl; simp only [jL, jM] at H
     replace H := H.pick 4 rfl; simp only [jL, jM] at H
     replace H := H.pick 4 rfl; simp only [jL, jM] at H
     have H := HR.more H; clear HR; simp only [List.cons_append, List.nil_append] at H
     refine k_met ?_
     exact ⟨_, _, _, _, _, _, hcc, rfl, H⟩
    ·refine up_mk rfl ?_
     refine s_mk (Value.int .u64) 0 (m := (8 * m)) H rfl rfl rfl (by omega) (by omega) (by omega) Try.underlying66 inf78 rfl ?_
     intro bf _ H'; clear H; have H := H'; clear H'
     refine k_nil ?_
     refine t_on H.only ?_
     refine t_up1 2 (by kernel_rfl) ?_
     refine up_mk rfl ?_
     refine s_call rfl (nClone _ _ _ ws _ (fun _ => ⟨_, _, rfl, by simp, (HR.same H.only).reads0 0 rfl⟩) (by omega) (by omega)) (ca63 rfl) ?_
     rintro e W1 ⟨bc, cc, rfl, hcc, H'⟩
     refine ⟨_, rfl, ?_⟩
     have H := H.more H'; clear H'
     refine k_nil ?_
     refine t_on H.only ?_
     refine tqn 10 rfl rfl rfl (fun _ hS => r_bd (bd119_0_1_2_3_4 _ _ _ _ _ _ _ _ _ _ _ _ _ _ _) rfl) H.only ?_
     refine t_up1 11 (by kernel_rfl) ?_
     refine up_mk rfl ?_
     first | (refine s_box1 H rfl rfl rfl ?_) | (refine s_box H rfl rfl ?_) | fail
     intro p18 _ H'; clear H; have H := H'; clear H'
     refine k_nil ?_
     refine t_on H.only ?_
     refine tqn 12 rfl rfl rfl (fun _ hS => r_as (v := .pointer _) rfl) H.only ?_
     refine t_done (by kernel_rfl) ?_
     replace H := H.pick 1 rfl; simp only [jL, jM] at H
     replace H := H.pick 2 rfl; simp only [jL, jM] at H
     replace H := H.pick 4 rfl; simp only [jL, jM] at H
     replace H := H.pick 4 rfl; simp only [jL, jM] at H
     replace H := H.pick 4 rfl; simp only [jL, jM] at H
     have H := HR.more H; clear HR; simp only [List.cons_append, List.nil_append] at H
     refine k_met ?_
     exact ⟨_, _, _, _, _, _, hcc, rfl, H⟩
  ·refine up_mk rfl ?_
   refine s_mk Value.bool false (m := m) H rfl rfl rfl (by omega) (by omega) (by omega) Try.underlying62 inf4 rfl ?_
   intro bp _ H'; clear H; have H := H'; clear H'
   refine k_nil ?_
   refine t_on H.only ?_
   refine t_up3 2 5 7 (by kernel_rfl) ?_ ?_ ?_
   ·refine up_mk rfl ?_
    refine s_call rfl (nClone _ _ _ ws _ (fun _ => ⟨_, _, rfl, by simp, (HR.same H.only).reads0 0 rfl⟩) (by omega) (by omega)) (ca63 rfl) ?_
    rintro e W1 ⟨bc, cc, rfl, hcc, H'⟩
    refine ⟨_, rfl, ?_⟩
    have H := H.more H'; clear H'
    refine k_nil ?_
    refine t_on H.only ?_
    refine t_up2 5 7 (by kernel_rfl) ?_ ?_
    ·refine up_mk rfl ?_
     refine s_mk (Value.int .u64) 0 (m := (8 * m)) H rfl rfl rfl (by omega) (by omega) (by omega) Try.underlying66 inf78 rfl ?_
     intro bf _ H'; clear H; have H := H'; clear H'
     refine k_nil ?_
     refine t_on H.only ?_
     refine t_up1 7 (by kernel_rfl) ?_
     refine up_mk rfl ?_
     refine s_mk Value.bool false (m := m) H rfl rfl rfl (by omega) (by omega) (by omega) Try.underlying62 inf4 rfl ?_
     intro bd _ H'; clear H; have H := H'; clear H'
     refine k_nil ?_
     refine t_on H.only ?_
     refine tqn 10 rfl rfl rfl (fun _ hS => r_bd (bd119_0_1_2_3_4 _ _ _ _ _ _ _ _ _ _ _ _ _ _ _) rfl) H.only ?_
     refine t_up1 11 (by kernel_rfl) ?_
     refine up_mk rfl ?_
     first | (refine s_box1 H rfl rfl rfl ?_) | (refine s_box H rfl rfl ?_) | fail
     intro p18 _ H'; clear H; have H := H'; clear H'
     refine k_nil ?_
     refine t_on H.only ?_
     refine tqn 12 rfl rfl rfl (fun _ hS => r_as (v := .pointer _) rfl) H.only ?_
     refine t_done (by kernel_rfl) ?_
     replace H := H.pick 3 rfl; simp only [jL, jM] at H
     replace H := H.pick 3 rfl; simp only [jL, jM] at H
     replace H := H.pick 3 rfl; simp only [jL, jM] at H
     replace H := H.pick 4 rfl; simp only [jL, jM] at H
     replace H := H.pick 4 rfl; simp only [jL, jM] at H
     have H := HR.more H; clear HR; simp only [List.cons_append, List.nil_append] at H
     refine k_met ?_
     exact ⟨_, _, _, _, _, _, hcc, rfl, H⟩
    ·refine up_mk rfl ?_
     refine s_mk Value.bool false (m := m) H rfl rfl rfl (by omega) (by omega) (by omega) Try.underlying62 inf4 rfl ?_
     intro bd _ H'; clear H; have H := H'; clear H'
     refine k_nil ?_
     refine t_on H.only ?_
     refine t_up1 5 (by kernel_rfl) ?_
     refine up_mk rfl ?_
     refine s_mk (Value.int .u64) 0 (m := (8 * m)) H rfl rfl rfl (by omega) (by omega) (by omega) Try.underlying66 inf78 rfl ?_
     intro bf _ H'; clear H; have H := H'; clear H'
     refine k_nil ?_
     refine t_on H.only ?_
     refine tqn 10 rfl rfl rfl (fun _ hS => r_bd (bd119_0_1_2_3_4 _ _ _ _ _ _ _ _ _ _ _ _ _ _ _) rfl) H.only ?_
     refine t_up1 11 (by kernel_rfl) ?_
     refine up_mk rfl ?_
     first | (refine s_box1 H rfl rfl rfl ?_) | (refine s_box H rfl rfl ?_) | fail
     intro p18 _ H'; clear H; have H := H'; clear H'
     refine k_nil ?_
     refine t_on H.only ?_
     refine tqn 12 rfl rfl rfl (fun _ hS => r_as (v := .pointer _) rfl) H.only ?_
     refine t_done (by kernel_rfl) ?_
     replace H := H.pick 3 rfl; simp only [jL, jM] at H
     replace H := H.pick 2 rfl; simp only [jL, jM] at H
     replace H := H.pick 3 rfl; simp only [jL, jM] at H
     replace H := H.pick 4 rfl; simp only [jL, jM] at H
     replace H := H.pick 4 rfl; simp only [jL, jM] at H
     have H := HR.more H; clear HR; simp only [List.cons_append, List.nil_append] at H
     refine k_met ?_
     exact ⟨_, _, _, _, _, _, hcc, rfl, H⟩
   ·refine up_mk rfl ?_
    refine s_mk (Value.int .u64) 0 (m := (8 * m)) H rfl rfl rfl (by omega) (by omega) (by omega) Try.underlying66 inf78 rfl ?_
    intro bf _ H'; clear H; have H := H'; clear H'
    refine k_nil ?_
    refine t_on H.only ?_
    refine t_up2 2 7 (by kernel_rfl) ?_ ?_
    ·refine up_mk rfl ?_
     refine s_call rfl (nClone _ _ _ ws _ (fun _ => ⟨_, _, rfl, by simp, (HR.same H.only).reads0 0 rfl⟩) (by omega) (by omega)) (ca63 rfl) ?_
     rintro e W1 ⟨bc, cc, rfl, hcc, H'⟩
     refine ⟨_, rfl, ?_⟩
     have H := H.more H'; clear H'
     refine k_nil ?_
     refine t_on H.only ?_
     refine t_up1 7 (by kernel_rfl) ?_
     refine up_mk rfl ?_
     refine s_mk Value.bool false (m := m) H rfl rfl rfl (by omega) (by omega) (by omega) Try.underlying62 inf4 rfl ?_
     intro bd _ H'; clear H; have H := H'; clear H'
     refine k_nil ?_
     refine t_on H.only ?_
     refine tqn 10 rfl rfl rfl (fun _ hS => r_bd (bd119_0_1_2_3_4 _ _ _ _ _ _ _ _ _ _ _ _ _ _ _) rfl) H.only ?_
     refine t_up1 11 (by kernel_rfl) ?_
     refine up_mk rfl ?_
     first | (refine s_box1 H rfl rfl rfl ?_) | (refine s_box H rfl rfl ?_) | fail
     intro p18 _ H'; clear H; have H := H'; clear H'
     refine k_nil ?_
     refine t_on H.only ?_
     refine tqn 12 rfl rfl rfl (fun _ hS => r_as (v := .pointer _) rfl) H.only ?_
     refine t_done (by kernel_rfl) ?_
     replace H := H.pick 2 rfl; simp only [jL, jM] at H
     replace H := H.pick 3 rfl; simp only [jL, jM] at H
     replace H := H.pick 3 rfl; simp only [jL, jM] at H
     replace H := H.pick 4 rfl; simp only [jL, jM] at H
     replace H := H.pick 4 rfl; simp only [jL, jM] at H
     have H := HR.more H; clear HR; simp only [List.cons_append, List.nil_append] at H
     refine k_met ?_
     exact ⟨_, _, _, _, _, _, hcc, rfl, H⟩
    ·refine up_mk rfl ?_
     refine s_mk Value.bool false (m := m) H rfl rfl rfl (by omega) (by omega) (by omega) Try.underlying62 inf4 rfl ?_
     intro bd _ H'; clear H; have H := H'; clear H'
     refine k_nil ?_
     refine t_on H.only ?_
     refine t_up1 2 (by kernel_rfl) ?_
     refine up_mk rfl ?_
     refine s_call rfl (nClone _ _ _ ws _ (fun _ => ⟨_, _, rfl, by simp, (HR.same H.only).reads0 0 rfl⟩) (by omega) (by omega)) (ca63 rfl) ?_
     rintro e W1 ⟨bc, cc, rfl, hcc, H'⟩
     refine ⟨_, rfl, ?_⟩
     have H := H.more H'; clear H'
     refine k_nil ?_
     refine t_on H.only ?_
     refine tqn 10 rfl rfl rfl (fun _ hS => r_bd (bd119_0_1_2_3_4 _ _ _ _ _ _ _ _ _ _ _ _ _ _ _) rfl) H.only ?_
     refine t_up1 11 (by kernel_rfl) ?_
     refine up_mk rfl ?_
     first | (refine s_box1 H rfl rfl rfl ?_) | (refine s_box H rfl rfl ?_) | fail
     intro p18 _ H'; clear H; have H := H'; clear H'
     refine k_nil ?_
     refine t_on H.only ?_
     refine tqn 12 rfl rfl rfl (fun _ hS => r_as (v := .pointer _) rfl) H.only ?_
     refine t_done (by kernel_rfl) ?_
     replace H := H.pick 1 rfl; simp only [jL, jM] at H
     replace H := H.pick 3 rfl; simp only [jL, jM] at H
     replace H := H.pick 3 rfl; simp only [jL, jM] at H
     replace H := H.pick 4 rfl; simp only [jL, jM] at H
     replace H := H.pick 4 rfl; simp only [jL, jM] at H
     have H := HR.more H; clear HR; simp only [List.cons_append, List.nil_append] at H
     refine k_met ?_
     exact ⟨_, _, _, _, _, _, hcc, rfl, H⟩
   ·refine up_mk rfl ?_
    refine s_mk Value.bool false (m := m) H rfl rfl rfl (by omega) (by omega) (by omega) Try.underlying62 inf4 rfl ?_
    intro bd _ H'; clear H; have H := H'; clear H'
    refine k_nil ?_
    refine t_on H.only ?_
    refine t_up2 2 5 (by kernel_rfl) ?_ ?_
    ·refine up_mk rfl ?_
     refine s_call rfl (nClone _ _ _ ws _ (fun _ => ⟨_, _, rfl, by simp, (HR.same H.only).reads0 0 rfl⟩) (by omega) (by omega)) (ca63 rfl) ?_
     rintro e W1 ⟨bc, cc, rfl, hcc, H'⟩
     refine ⟨_, rfl, ?_⟩
     have H := H.more H'; clear H'
     refine k_nil ?_
     refine t_on H.only ?_
     refine t_up1 5 (by kernel_rfl) ?_
     refine up_mk rfl ?_
     refine s_mk (Value.int .u64) 0 (m := (8 * m)) H rfl rfl rfl (by omega) (by omega) (by omega) Try.underlying66 inf78 rfl ?_
     intro bf _ H'; clear H; have H := H'; clear H'
     refine k_nil ?_
     refine t_on H.only ?_
     refine tqn 10 rfl rfl rfl (fun _ hS => r_bd (bd119_0_1_2_3_4 _ _ _ _ _ _ _ _ _ _ _ _ _ _ _) rfl) H.only ?_
     refine t_up1 11 (by kernel_rfl) ?_
     refine up_mk rfl ?_
     first | (refine s_box1 H rfl rfl rfl ?_) | (refine s_box H rfl rfl ?_) | fail
     intro p18 _ H'; clear H; have H := H'; clear H'
     refine k_nil ?_
     refine t_on H.only ?_
     refine tqn 12 rfl rfl rfl (fun _ hS => r_as (v := .pointer _) rfl) H.only ?_
     refine t_done (by kernel_rfl) ?_
     replace H := H.pick 2 rfl; simp only [jL, jM] at H
     replace H := H.pick 2 rfl; simp only [jL, jM] at H
     replace H := H.pick 3 rfl; simp only [jL, jM] at H
     replace H := H.pick 4 rfl; simp only [jL, jM] at H
     replace H := H.pick 4 rfl; simp only [jL, jM] at H
     have H := HR.more H; clear HR; simp only [List.cons_append, List.nil_append] at H
     refine k_met ?_
     exact ⟨_, _, _, _, _, _, hcc, rfl, H⟩
    ·refine up_mk rfl ?_
     refine s_mk (Value.int .u64) 0 (m := (8 * m)) H rfl rfl rfl (by omega) (by omega) (by omega) Try.underlying66 inf78 rfl ?_
     intro bf _ H'; clear H; have H := H'; clear H'
     refine k_nil ?_
     refine t_on H.only ?_
     refine t_up1 2 (by kernel_rfl) ?_
     refine up_mk rfl ?_
     refine s_call rfl (nClone _ _ _ ws _ (fun _ => ⟨_, _, rfl, by simp, (HR.same H.only).reads0 0 rfl⟩) (by omega) (by omega)) (ca63 rfl) ?_
     rintro e W1 ⟨bc, cc, rfl, hcc, H'⟩
     refine ⟨_, rfl, ?_⟩
     have H := H.more H'; clear H'
     refine k_nil ?_
     refine t_on H.only ?_
     refine tqn 10 rfl rfl rfl (fun _ hS => r_bd (bd119_0_1_2_3_4 _ _ _ _ _ _ _ _ _ _ _ _ _ _ _) rfl) H.only ?_
     refine t_up1 11 (by kernel_rfl) ?_
     refine up_mk rfl ?_
     first | (refine s_box1 H rfl rfl rfl ?_) | (refine s_box H rfl rfl ?_) | fail
     intro p18 _ H'; clear H; have H := H'; clear H'
     refine k_nil ?_
     refine t_on H.only ?_
     refine tqn 12 rfl rfl rfl (fun _ hS => r_as (v := .pointer _) rfl) H.only ?_
     refine t_done (by kernel_rfl) ?_
     replace H := H.pick 1 rfl; simp only [jL, jM] at H
     replace H := H.pick 2 rfl; simp only [jL, jM] at H
     replace H := H.pick 3 rfl; simp only [jL, jM] at H
     replace H := H.pick 4 rfl; simp only [jL, jM] at H
     replace H := H.pick 4 rfl; simp only [jL, jM] at H
     have H := HR.more H; clear HR; simp only [List.cons_append, List.nil_append] at H
     refine k_met ?_
     exact ⟨_, _, _, _, _, _, hcc, rfl, H⟩
 clear H
 rintro f' W ⟨p, bc, cc, bf, bd, bp, hcc, h2, H⟩
 obtain ⟨f', rfl⟩ := live1 h2
 refine c_norm ?_
 refine k_ret ?_
 refine fin1r (v := .pointer _) rfl rfl ?_
 refine ⟨⟨p, b, bc, bf, bd, bp, c, cc, 8 * m, m, m⟩, rfl, ⟨hc, hcc, by simp; omega, by simp; omega, by simp; omega⟩, ?_⟩
 unfold devL devCells Nv.load
 simp only [hl, List.length_replicate]
 refine H.perm ?_
 refine List.Perm.cons _ ?_
 exact (List.reverse_perm [vec (Value.int .u64) b ws 78, vec (Value.int .u64) bc ws 78, vec (Value.int .u64) bf (List.replicate (8 * m) 0) 78, vec Value.bool bd (List.replicate m false) 4, vec Value.bool bp (List.replicate m false) 4])
theorem nUp (n : Int) (w : World) (h : -9223372036854775808 ≤ n ∧ n ≤ 9223372036854775807) :
  Calls Try.prog 88 [.int .i64 n, .int .i64 8].toArray w fun e w' => e = .returned (.int .i64 (((n.toNat + 7) / 8 : Nat) : Int)) ∧ Only [] w w' := by
 have H := Heap.nil w
 by_cases h0 : n ≤ 0
 ·refine k_in (N := 16) Try.func88 rfl rfl rfl ?_
  refine k_sg ?_
  refine s_run rfl rfl (rai rfl) ?_
  refine k_nc ?_
  refine k_seq ?_
  refine k_sg ?_
  refine s_run rfl rfl (rmi rfl) ?_
  refine s_run rfl rfl (r_leqT rfl rfl (by omega)) ?_
  refine s_run rfl rfl (rmb rfl) ?_
  refine s_off rfl (g_off 7 (by kernel_rfl) rfl rfl) ?_
  refine s_off rfl (g_off 7 (by kernel_rfl) rfl rfl) ?_
  refine s_run rfl rfl (r_pkT (v := .bool _) rfl rfl) ?_
  refine k_nc ?_
  refine k_t rfl ?_
  refine k_sg ?_
  refine s_run rfl rfl (rai rfl) ?_
  refine k_nc ?_
  refine k_ret ?_
  refine c_ret ?_
  refine fin1r (v := .int _ _) rfl rfl ?_
  exact ⟨by rw [show ((n.toNat + 7) / 8 : Nat) = 0 from by omega]; rfl, H.only⟩
 ·refine k_in (N := 16) Try.func88 rfl rfl rfl ?_
  refine k_sg ?_
  refine s_run rfl rfl (rai rfl) ?_
  refine k_nc ?_
  refine k_seq ?_
  refine k_sg ?_
  refine s_run rfl rfl (rmi rfl) ?_
  refine s_run rfl rfl (r_leqF rfl rfl (by omega)) ?_
  refine s_run rfl rfl (rmb rfl) ?_
  refine s_run rfl (g_on 7 (by kernel_rfl) rfl) (rmi rfl) ?_
  refine s_run rfl (g_on 7 (by kernel_rfl) rfl) (r_leqF rfl rfl (by omega)) ?_
  refine s_run rfl rfl (r_pkF (v := .bool _) rfl rfl) ?_
  refine k_nc ?_
  refine k_f rfl ?_
  refine k_skip ?_
  refine c_norm ?_
  refine k_sg ?_
  refine s_run rfl rfl (rmi rfl) ?_
  refine s_run rfl rfl (r_sub rfl rfl (wI (by omega))) ?_
  refine s_run rfl rfl (rmi rfl) ?_
  refine s_run rfl rfl (r_quo rfl rfl (by omega) (wI (by omega))) ?_
  refine s_run rfl rfl (r_add rfl rfl (wI (by omega))) ?_
  refine s_run rfl rfl (rai rfl) ?_
  refine k_nc ?_
  refine k_ret ?_
  refine fin1r (v := .int _ _) rfl rfl ?_
  exact ⟨ret_int (by omega), H.only⟩
theorem nAll (g : Geo) (d : Nv.D) (m : Nat) (w : World) (hE : Ents (devL g d) w) (ho : Nv.Ok d m) (hm : m ≤ 100000) :
  Calls Try.prog 30 [ptr g.p].toArray w fun e w' => ∃ b c', e = .returned (.slice (some ⟨b, 0, none⟩) (8 * m) c') ∧ (8 * m ≤ c' ∧ c' ≤ 9223372036854775807) ∧ Heap w [] [vec (Value.int .u64) b d.last 78] w' := by
 have HR := Heap.start hE
 have H := Heap.nil w
 have hl := ho.hl
 generalize hF : ids (devL g d) = F at HR
 unfold devL devCells at HR
 rw [hl] at HR
 refine k_in (N := 8) Try.func30 rfl rfl rfl ?_
 refine k_sg ?_
 refine s_run rfl rfl (ras rfl) ?_
 refine k_nc ?_
 refine k_sg ?_
 refine s_run rfl rfl (rmp rfl) ?_
 refine s_run rfl rfl (r_nc rfl) ?_
 first | (refine s_run rfl rfl (r_fa0 rfl fo119_0) ?_) | (refine s_run rfl rfl (r_fa rfl fo119_0) ?_) | fail
 first | (refine s_run rfl rfl (r_lo (HR.same H.only) 0 rfl rfl rfl ag66) ?_) | (refine s_run rfl rfl (r_lo (HR.same H.only) 1 rfl rfl rfl ag66) ?_) | (refine s_run rfl rfl (r_lo (HR.same H.only) 2 rfl rfl rfl ag66) ?_) | (refine s_run rfl rfl (r_lo (HR.same H.only) 3 rfl rfl rfl ag66) ?_) | (refine s_run rfl rfl (r_lo (HR.same H.only) 4 rfl rfl rfl ag66) ?_) | (refine s_run rfl rfl (r_lo (HR.same H.only) 5 rfl rfl rfl ag66) ?_) | (refine s_run rfl rfl (r_lo (HR.same H.only) 6 rfl rfl rfl ag66) ?_) | (refine s_run rfl rfl (r_lv (HR.same H.only) 0 rfl rfl (by assumption) ag66) ?_) | (refine s_run rfl rfl (r_lv (HR.same H.only) 1 rfl rfl (by assumption) ag66) ?_) | (refine s_run rfl rfl (r_lv (HR.same H.only) 2 rfl rfl (by assumption) ag66) ?_) | (refine s_run rfl rfl (r_lv (HR.same H.only) 3 rfl rfl (by assumption) ag66) ?_) | (refine s_run rfl rfl (r_lv (HR.same H.only) 4 rfl rfl (by assumption) ag66) ?_) | (refine s_run rfl rfl (r_lv (HR.same H.only) 5 rfl rfl (by assumption) ag66) ?_) | (refine s_run rfl rfl (r_lv (HR.same H.only) 6 rfl rfl (by assumption) ag66) ?_) | (refine s_run rfl rfl (r_lv (HR.same H.only) 0 rfl rfl (getE (by omega)) ag66) ?_) | (refine s_run rfl rfl (r_lv (HR.same H.only) 1 rfl rfl (getE (by omega)) ag66) ?_) | (refine s_run rfl rfl (r_lv (HR.same H.only) 2 rfl rfl (getE (by omega)) ag66) ?_) | (refine s_run rfl rfl (r_lv (HR.same H.only) 3 rfl rfl (getE (by omega)) ag66) ?_) | (refine s_run rfl rfl (r_lv (HR.same H.only) 4 rfl rfl (getE (by omega)) ag66) ?_) | (refine s_run rfl rfl (r_lv (HR.same H.only) 5 rfl rfl (getE (by omega)) ag66) ?_) | (refine s_run rfl rfl (r_lv (HR.same H.only) 6 rfl rfl (getE (by omega)) ag66) ?_) | (refine s_run rfl rfl (r_lr (HR.same H.only) rfl (by assumption) (by simp) ag66) ?_) | (refine s_run rfl rfl (r_lo H 0 rfl rfl rfl ag66) ?_) | (refine s_run rfl rfl (r_lo H 1 rfl rfl rfl ag66) ?_) | (refine s_run rfl rfl (r_lo H 2 rfl rfl rfl ag66) ?_) | (refine s_run rfl rfl (r_lo H 3 rfl rfl rfl ag66) ?_) | (refine s_run rfl rfl (r_lo H 4 rfl rfl rfl ag66) ?_) | (refine s_run rfl rfl (r_lo H 5 rfl rfl rfl ag66) ?_) | (refine s_run rfl rfl (r_lo H 6 rfl rfl rfl ag66) ?_) | (refine s_run rfl rfl (r_lv H 0 rfl rfl (by assumption) ag66) ?_) | (refine s_run rfl rfl (r_lv H 1 rfl rfl (by assumption) ag66) ?_) | (refine s_run rfl rfl (r_lv H 2 rfl rfl (by assumption) ag66) ?_) | (refine s_run rfl rfl (r_lv H 3 rfl rfl (by assumption) ag66) ?_) | (refine s_run rfl rfl (r_lv H 4 rfl rfl (by assumption) ag66) ?_) | (refine s_run rfl rfl (r_lv H 5 rfl rfl (by assumption) ag66) ?_) | (refine s_run rfl rfl (r_lv H 6 rfl rfl (by assumption) ag66) ?_) | (refine s_run rfl rfl (r_lv H 0 rfl rfl (getE (by omega)) ag66) ?_) | (refine s_run rfl rfl (r_lv H 1 rfl rfl (getE (by omega)) ag66) ?_) | (refine s_run rfl rfl (r_lv H 2 rfl rfl (getE (by omega)) ag66) ?_) | (refine s_run rfl rfl (r_lv H 3 rfl rfl (getE (by omega)) ag66) ?_) | (refine s_run rfl rfl (r_lv H 4 rfl rfl (getE (by omega)) ag66) ?_) | (refine s_run rfl rfl (r_lv H 5 rfl rfl (getE (by omega)) ag66) ?_) | (refine s_run rfl rfl (r_lv H 6 rfl rfl (getE (by omega)) ag66) ?_) | (refine s_run rfl rfl (r_lr H rfl (by assumption) (by simp) ag66) ?_) | fail
 refine s_call rfl (nClone _ _ _ d.last _ (fun _ => ⟨_, _, rfl, by simp, HR.reads0 1 rfl⟩) (by omega) (by omega)) (ca63 rfl) ?_
 rintro e W1 ⟨b, c', rfl, hc, H'⟩
 refine ⟨_, rfl, ?_⟩
 have H := H.more H'; clear H'
 refine s_run rfl rfl (ras rfl) ?_
 refine k_nc ?_
 refine k_ret ?_
 refine fin1r (v := .slice _ _ _) rfl rfl ?_
 exact ⟨b, c', rfl, hc, H⟩
theorem nLoad (A : Option Addr) (n c : Nat) (zs : List Int) (w : World) (hz : Sees (Value.int .u64) w [] A zs) (hl : zs.length = n) (hn : n ≤ 500000) :
  Calls Try.prog 60 [.slice A n c].toArray w fun e w' => ∃ g, e = .returned (ptr g.p) ∧ GOk g ((n + 7) / 8) ∧ Heap w [] (devL g (Nv.load (zs ++ List.replicate (8 * ((n + 7) / 8) - n) 0) ((n + 7) / 8))) w' := by
 have H := Heap.nil w
 have hq : (n + 7) / 8 ≤ 100000 ∧ n ≤ 8 * ((n + 7) / 8) := by omega
 have hU := nUp n w (by omega)
 rw [Int.toNat_natCast] at hU
 generalize (n + 7) / 8 = m at hq hU ⊢
 refine k_in (N := 14) Try.func60 rfl rfl rfl ?_
 refine k_sg ?_
 refine s_run rfl rfl (rap rfl) ?_
 refine k_nc ?_
 refine k_sg ?_
 refine s_run rfl rfl (rms rfl) ?_
 refine s_run rfl rfl (r_len rfl Try.underlying66) ?_
 refine s_call rfl (hU) (ca88 rfl) ?_
 rintro e W1 ⟨rfl, H'⟩
 refine ⟨_, rfl, ?_⟩
 have H := H.same H'; clear H'
 refine s_run rfl rfl (r_mul rfl rfl (wI (by omega))) ?_
 refine s_mk (Value.int .u64) 0 (m := (8 * m)) H rfl rfl rfl (by omega) (by omega) (by omega) Try.underlying66 inf78 rfl ?_
 intro b _ H'; clear H; have H := H'; clear H'
 refine s_run rfl rfl (ras rfl) ?_
 refine k_nc ?_
 refine k_sg ?_
 refine s_run rfl rfl (rms rfl) ?_
 refine s_run rfl rfl (rms rfl) ?_
 refine s_cpr (enc := (Value.int .u64)) H 0 rfl rfl rfl rfl (hz) (hl) (fun _ => rfl) (by first | omega | (simp; omega)) Try.underlying66 inf78 ?_
 clear H; intro _ H; simp only [jA, jB, jC, jD, jE, jF, jG, jH, jI, jJ, jK, Nat.reduceAdd] at H
 refine k_nc ?_
 refine k_sg ?_
 refine s_run rfl rfl (rms rfl) ?_
 refine s_call rfl (nload b (8 * m) m _ _ H.ents (by simp; omega) hq.1 (by omega)) (ca89 rfl) ?_
 rintro e W1 ⟨g, rfl, hg, H'⟩
 refine ⟨_, rfl, ?_⟩
 have H := H.whole H'; clear H'
 refine s_run rfl rfl (rap rfl) ?_
 refine k_nc ?_
 refine k_ret ?_
 refine fin1r (v := .pointer _) rfl rfl ?_
 refine ⟨g, rfl, hg, ?_⟩
 rw [List.drop_replicate] at H
 exact H
end Go.Proofs.Ytlakbclnilakbaa
end

section
namespace Go.Proofs.Ytlakbclnilakbaa
open Go.RowKit
end Go.Proofs.Ytlakbclnilakbaa
end

section
namespace Go.Proofs.Ytlakbclnilakbaa
open Go.RowKit
end Go.Proofs.Ytlakbclnilakbaa
end

section
namespace Go.Proofs.Ytlakbclnilakbaa.Cl
open Go Go.RowKit
def szs : List Int := [2, 3, 4, 5, 6, 7, 8, 10, 12, 14, 16, 18, 20, 24, 28, 32, 36, 40, 46, 51, 56, 64, 73, 85, 92, 102, 113, 128, 146, 170, 204, 256]
def sz (j : Nat) : Int := szs.getD j 0
def SZ : Value := .agg (szs.map (Value.int .i64)).toArray
/-- words of a class -/
def words (k : Int) : Int := if 0 ≤ k ∧ k < 32 then sz k.toNat else 0
theorem words_out (k : Int) (h : k < 0 ∨ 32 ≤ k) : words k = 0 := by unfold words; rw [if_neg (by omega)]
theorem words_in (k : Int) (h : 0 ≤ k) (h2 : k < 32) : words k = sz k.toNat := by unfold words; rw [if_pos ⟨h, h2⟩]
theorem sz_bd : ∀ j < 32, 2 ≤ sz j ∧ sz j ≤ 256 := by decide
theorem sz_step : ∀ j < 31, sz j < sz (j + 1) := by decide
theorem words_bd (k : Int) : 0 ≤ words k ∧ words k ≤ 256 := by
  unfold words; split
  · have := sz_bd k.toNat (by omega); omega
  · omega
theorem words_pos (k : Int) (h : 0 ≤ k) (h2 : k < 32) : 2 ≤ words k := by rw [words_in k h h2]; exact (sz_bd k.toNat (by omega)).1
theorem sz_mono (d : Nat) : ∀ j, j + d < 32 → sz j ≤ sz (j + d) := by
  induction d with
  | zero => intro j _; exact Int.le_refl _
  | succ d ih => intro j h; have a := ih j (by omega); have b := sz_step (j + d) (by omega); have e : j + (d + 1) = j + d + 1 := by omega
                 rw [e]; omega
theorem words_mono (i j : Int) (h0 : 0 ≤ i) (h : i ≤ j) (h2 : j < 32) : words i ≤ words j := by
  rw [words_in i h0 (by omega), words_in j (by omega) h2]
  have := sz_mono (j.toNat - i.toNat) i.toNat (by omega)
  rwa [show i.toNat + (j.toNat - i.toNat) = j.toNat from by omega] at this
theorem SZ_at (k : Int) (h : 0 ≤ k) (h2 : k < 32) : (szs.map (Value.int .i64)).toArray[k.toNat]? = some (.int .i64 (words k)) := by
  rw [words_in k h h2]
  have hl : szs.length = 32 := rfl
  have : k.toNat < szs.length := by omega
  simp [sz, List.getElem?_eq_getElem this]
/-- the least class whose cells have so many words; -1: none -/
def Least (n k : Int) : Prop := 0 ≤ k ∧ k < 32 ∧ n ≤ words k ∧ ∀ j, 0 ≤ j → j < k → words j < n
theorem Least.unique {n k l : Int} (h : Least n k) (h2 : Least n l) : k = l := by
  obtain ⟨a1, a2, a3, a4⟩ := h
  obtain ⟨b1, b2, b3, b4⟩ := h2
  rcases Int.lt_trichotomy k l with h | h | h
  · have := b4 k a1 h; omega
  · exact h
  · have := a4 l b1 h; omega
theorem Least.bd {n k : Int} (h : Least n k) : 0 ≤ k ∧ k < 32 := ⟨h.1, h.2.1⟩
theorem Least.lt {n k : Int} (h : Least n k) (j : Int) (h0 : 0 ≤ j) (h1 : j < k) : words j < n := h.2.2.2 j h0 h1
theorem Least.le {n k : Int} (h : Least n k) : n ≤ words k := h.2.2.1
def findN (n : Int) : Nat → Nat → Nat
  | 0, j => j
  | f + 1, j => if n ≤ words j then j else findN n f (j + 1)
theorem findN_spec (n : Int) (f : Nat) : ∀ j, j + f ≤ 31 → (∀ i : Int, 0 ≤ i → i < j → words i < n) → (∃ k : Int, (j : Int) ≤ k ∧ k ≤ j + f ∧ n ≤ words k) → Least n (findN n f j) := by
  induction f with
  | zero =>
    intro j hj h1 ⟨k, k1, k2, k3⟩
    obtain rfl : k = (j : Int) := by omega
    exact ⟨by unfold findN; omega, by unfold findN; omega, by unfold findN; exact k3, by unfold findN; exact h1⟩
  | succ f ih =>
    intro j hj h1 ⟨k, k1, k2, k3⟩
    unfold findN
    by_cases h : n ≤ words j
    · rw [if_pos h]; exact ⟨by omega, by omega, h, h1⟩
    · rw [if_neg h]
      refine ih (j + 1) (by omega) (fun i i0 i1 => ?_) ⟨k, ?_, by omega, k3⟩
      · by_cases hi : i < j
        · exact h1 i i0 hi
        · obtain rfl : i = (j : Int) := by omega
          omega
      · rcases Int.lt_or_le j k with h2 | h2
        · omega
        · obtain rfl : k = (j : Int) := by omega
          omega
def ofK (n : Int) : Int := if 1 ≤ n ∧ n ≤ 256 then (findN n 31 0 : Nat) else 0
def ofB (n : Int) : Bool := decide (1 ≤ n ∧ n ≤ 256)
theorem ofK_least (n : Int) (h1 : 1 ≤ n) (h2 : n ≤ 256) : Least n (ofK n) := by
  have h31 : n ≤ words 31 := by
    have : words 31 = 256 := by decide
    omega
  unfold ofK
  rw [if_pos ⟨h1, h2⟩]
  exact findN_spec n 31 0 (by omega) (fun i a b => by omega) ⟨31, by omega, by omega, h31⟩
theorem ofK_out (n : Int) (h : n < 1 ∨ 256 < n) : ofK n = 0 := by unfold ofK; rw [if_neg (by omega)]
theorem ofK_bd (n : Int) : 0 ≤ ofK n ∧ ofK n < 32 := by
  by_cases h : 1 ≤ n ∧ n ≤ 256
  · exact (ofK_least n h.1 h.2).bd
  · rw [ofK_out n (by omega)]; omega
theorem ofB_yes (n : Int) (h1 : 1 ≤ n) (h2 : n ≤ 256) : ofB n = true := by unfold ofB; simp; omega
theorem ofB_no (n : Int) (h : n < 1 ∨ 256 < n) : ofB n = false := by unfold ofB; simp; omega
theorem words31 : words 31 = 256 := by decide
/-- cells of a class -/
def cells (k : Int) : Int := if 0 ≤ k ∧ k < 32 then 512 / words k else 0
theorem cells_out (k : Int) (h : k < 0 ∨ 32 ≤ k) : cells k = 0 := by unfold cells; rw [if_neg (by omega)]
theorem cells_in (k : Int) (h : 0 ≤ k) (h2 : k < 32) : cells k = 512 / words k := by unfold cells; rw [if_pos ⟨h, h2⟩]
theorem cells_bd (k : Int) : 0 ≤ cells k ∧ cells k ≤ 256 := by
  unfold cells; split
  · rename_i h
    have := words_pos k h.1 h.2
    refine ⟨Int.ediv_nonneg (by omega) (by omega), ?_⟩
    have h3 : 512 / words k < 257 := (Int.ediv_lt_iff_lt_mul (show 0 < words k by omega)).2 (by omega)
    omega
  · omega
theorem cells_more (k n : Int) (h : 0 ≤ k) (h2 : k < 32) (hn : 0 ≤ n) : (n + 1) * words k ≤ 512 ↔ n < cells k := by
  have hp := words_pos k h h2
  rw [cells_in k h h2]
  constructor
  · intro hh
    have := (Int.le_ediv_iff_mul_le (show 0 < words k by omega)).2 hh
    omega
  · intro hh
    exact (Int.le_ediv_iff_mul_le (show 0 < words k by omega)).1 (by omega)
/-- an object's words -/
def size (p d : Int) : Int := if p < 0 ∨ p > 63 ∨ d < 0 ∨ d > 16384 then 0 else 1 + p + d
def rightB (k : Int) : Bool := decide (0 ≤ k ∧ k < 32)
theorem rightB_yes (k : Int) (h : 0 ≤ k) (h2 : k < 32) : rightB k = true := by unfold rightB; simp; omega
theorem rightB_no (k : Int) (h : k < 0 ∨ 32 ≤ k) : rightB k = false := by unfold rightB; simp; omega
def BelowAll (n j : Int) : Prop := ∀ i : Int, 0 ≤ i → i < j → words i < n
theorem BelowAll.zero (n : Int) : BelowAll n 0 := fun i a b => by omega
theorem BelowAll.succ {n j : Int} (h : BelowAll n j) (hj : words j < n) : BelowAll n (j + 1) := fun i a b => by
  by_cases hi : i < j
  · exact h i a hi
  · obtain rfl : i = j := by omega
    exact hj
theorem BelowAll.up {n j m : Int} (h : words m < n) (hm : m < 32) : BelowAll n (m + 1) := fun i a b => by
  have := words_mono i m a (by omega) hm
  omega
theorem BelowAll.least {n j : Int} (h : BelowAll n j) (h0 : 0 ≤ j) (h1 : j < 32) (h2 : n ≤ words j) : Least n j := ⟨h0, h1, h2, h⟩
def szCode (p d : Int) : Int := if p < 0 ∨ p > 63 ∨ d < 0 ∨ d > 16384 then 5 else 0
theorem size_bad (p d : Int) (h : p < 0 ∨ p > 63 ∨ d < 0 ∨ d > 16384) : size p d = 0 ∧ szCode p d = 5 := by unfold size szCode; rw [if_pos h, if_pos h]; exact ⟨rfl, rfl⟩
theorem size_good (p d : Int) (h1 : 0 ≤ p) (h2 : p ≤ 63) (h3 : 0 ≤ d) (h4 : d ≤ 16384) : size p d = 1 + p + d ∧ szCode p d = 0 := by unfold size szCode; rw [if_neg (by omega), if_neg (by omega)]; exact ⟨rfl, rfl⟩
theorem size_bd (p d : Int) : 0 ≤ size p d ∧ size p d ≤ 16448 := by unfold size; split <;> omega
end Go.Proofs.Ytlakbclnilakbaa.Cl
end

section
namespace Go.Proofs.Ytlakbclnilakbaa
open Go.RowKit
set_option maxHeartbeats 400000
set_option maxRecDepth 100000
theorem SZ_one : ∀ v ∈ (Cl.szs.map (Value.int .i64)).toArray.toList, v.oneCell' = true := by
 intro v hv
 obtain ⟨z, _, rfl⟩ := List.mem_map.1 (by simpa using hv)
 rfl
theorem isSome32 : (Try.prog.info? 202).isSome = true := by kernel_rfl
theorem sizes_any (w : World) : Calls Try.prog 152 #[] w fun e w' => e = .returned Cl.SZ ∧ Below w.heap.size w w' := by
 obtain ⟨i32, info32⟩ := Option.isSome_iff_exists.1 isSome32
 go_enter Try.func152, Try.ntmps152
 go_wp2_with (refine wpList_store_row (P := Try.prog) rfl 202 (.tmp 0) (.tmp 1) rfl w.heap.size _ (Cl.szs.map (Value.int .i64)).toArray 202 rfl rfl (heap_alloc_new w _) rfl info32 (by kernel_rfl) SZ_one ?_)
 exact bodyPost_ret (v := Cl.SZ) (results_cell_row rfl _ _ w.heap.size 202 (Cl.szs.map (Value.int .i64)).toArray (0, 0) _ rfl (setRow_heap _ _ _ _ _ _ (heap_alloc_new w _)) Try.underlying202 rfl (by kernel_rfl)) rfl ⟨rfl, below_setRow ((Below.refl _ _).alloc (Nat.le_refl _) _) (Nat.le_refl _) _⟩
/-- a row of the sizes lies at block g -/
def SzAt (w : World) (g : Nat) : Prop := ∀ k : Int, 0 ≤ k → k < 32 → w.cell? ⟨g, k.toNat, none⟩ = some (.int .i64 (Cl.words k))
theorem SzAt_new (w : World) : SzAt (w.alloc (.cells (Cl.szs.map (Value.int .i64)).toArray 3)) w.heap.size := fun k h h2 => by
 rw [Joins.cell_of_block (heap_alloc_new w _)]; exact Cl.SZ_at k h h2
theorem rSizes_any (w : World) : Calls Try.prog 85 #[] w fun e w' => e = .returned (.slice (some ⟨w.heap.size, 0, none⟩) 32 32) ∧ Below w.heap.size w w' ∧ SzAt w' w.heap.size := by
 go_enter Try.func85, Try.ntmps85
 go_wp2_with fail
 go_ret
 exact ⟨rfl, (Below.refl _ _).alloc (Nat.le_refl _) _, SzAt_new w⟩
theorem right_any (k : Int) (w : World) (h1 : -9223372036854775808 ≤ k) (h2 : k ≤ 9223372036854775807) : Calls Try.prog 52 #[.int .i64 k] w fun e w' => e = .returned (.bool (Cl.rightB k)) ∧ w = w' := by
 by_cases c1 : k < 0
 ·have e := Lib.hid (Cl.rightB_no k (.inl c1))
  go_enter Try.func52, Try.ntmps52
  go_wp2
  go_ret
  exact ⟨ret_bool e.out.symm, rfl⟩
 ·by_cases c2 : k < 32
  ·have e := Lib.hid (Cl.rightB_yes k (by omega) c2)
   go_enter Try.func52, Try.ntmps52
   go_wp2
   go_ret
   exact ⟨ret_bool (by rw [e.out]), rfl⟩
  ·have e := Lib.hid (Cl.rightB_no k (.inr (by omega)))
   go_enter Try.func52, Try.ntmps52
   go_wp2
   go_ret
   exact ⟨ret_bool (by rw [e.out]), rfl⟩
theorem words_any (k : Int) (w : World) (h1 : -9223372036854775808 ≤ k) (h2 : k ≤ 9223372036854775807) : Calls Try.prog 139 #[.int .i64 k] w fun e w' => e = .returned (.int .i64 (Cl.words k)) ∧ Below w.heap.size w w' := by
 by_cases c : 0 ≤ k ∧ k < 32
 ·obtain ⟨c1, c2⟩ := c
  have hr := Cl.rightB_yes k c1 c2
  obtain ⟨i0, hi0, _, _, _⟩ := info_parts info_int
  have hx : ∀ W, (Instr.index 202 Cl.SZ (.int .i64 k)).run Try.prog W = .ok (.int .i64 (Cl.words k)) W := fun W =>
   run_index_ints W Try.underlying202 Try.underlying3 (by kernel_rfl) hi0 _ _ _ _ c1 c2 (Cl.SZ_at k c1 c2)
  clear hi0
  go_enter Try.func139, Try.ntmps139
  go_wp2_with (first
   | (go_at_call 152; refine (sizes_any _).mono ?_; rintro e w1 ⟨rfl, hb⟩)
   | (go_at_call 52; refine (right_any _ _ (by omega) (by omega)).mono ?_; rintro e w' ⟨rfl, rfl⟩))
  go_ret
  exact ⟨rfl, hb⟩
 ·have e := Lib.hid (Cl.words_out k (by omega))
  have hr := Cl.rightB_no k (by omega)
  go_enter Try.func139, Try.ntmps139
  go_wp2_with (first
   | (go_at_call 52; refine (right_any _ _ (by omega) (by omega)).mono ?_; rintro e w' ⟨rfl, rfl⟩))
  go_ret
  exact ⟨ret_int e.out.symm, Below.refl _ _⟩
theorem rWords_any (k : Int) (w : World) (h1 : -9223372036854775808 ≤ k) (h2 : k ≤ 9223372036854775807) : Calls Try.prog 58 #[.int .i64 k] w fun e w' => e = .returned (.int .i64 (Cl.words k)) ∧ Below w.heap.size w w' := by
 by_cases c : 0 ≤ k ∧ k < 32
 ·obtain ⟨c1, c2⟩ := c
  go_enter Try.func58, Try.ntmps58
  go_wp2_with (first
   | (go_at_call 85; refine (rSizes_any _).mono ?_; rintro e w1 ⟨rfl, hb, hsz⟩; have hcw := hsz k c1 c2))
  go_ret
  exact ⟨rfl, hb⟩
 ·have e := Lib.hid (Cl.words_out k (by omega))
  by_cases c1 : k < 0
  ·go_enter Try.func58, Try.ntmps58
   go_wp2
   go_ret
   exact ⟨ret_int e.out.symm, Below.refl _ _⟩
  ·have c2 : 32 ≤ k := by omega
   go_enter Try.func58, Try.ntmps58
   go_wp2
   go_ret
   exact ⟨ret_int e.out.symm, Below.refl _ _⟩
theorem most_any (w : World) : Calls Try.prog 151 #[] w fun e w' => e = .returned (.int .i64 256) ∧ Below w.heap.size w w' := by
 have h31 := Cl.words31
 go_enter Try.func151, Try.ntmps151
 go_wp2_with (first
  | (go_at_call 139; refine (words_any _ _ (by omega) (by omega)).mono ?_; rintro e w1 ⟨rfl, hb⟩))
 go_ret
 exact ⟨ret_int (by first | rfl | exact h31), hb⟩
theorem cells_any (k : Int) (w : World) (h1 : -9223372036854775808 ≤ k) (h2 : k ≤ 9223372036854775807) : Calls Try.prog 153 #[.int .i64 k] w fun e w' => e = .returned (.int .i64 (Cl.cells k)) ∧ Below w.heap.size w w' := by
 by_cases c : 0 ≤ k ∧ k < 32
 ·obtain ⟨c1, c2⟩ := c
  have hr := Cl.rightB_yes k c1 c2
  have hp := Cl.words_pos k c1 c2
  have hbd := Cl.words_bd k
  have e := Lib.hid (Cl.cells_in k c1 c2)
  go_enter Try.func153, Try.ntmps153
  go_wp2_with (first
   | (go_at_call 139; refine (words_any _ _ (by omega) (by omega)).mono ?_; rintro e w1 ⟨rfl, hb⟩)
   | (go_at_call 52; refine (right_any _ _ (by omega) (by omega)).mono ?_; rintro e w' ⟨rfl, rfl⟩))
  go_ret
  exact ⟨ret_int e.out.symm, hb⟩
 ·have e := Lib.hid (Cl.cells_out k (by omega))
  have hr := Cl.rightB_no k (by omega)
  go_enter Try.func153, Try.ntmps153
  go_wp2_with (first
   | (go_at_call 52; refine (right_any _ _ (by omega) (by omega)).mono ?_; rintro e w' ⟨rfl, rfl⟩))
  go_ret
  exact ⟨ret_int e.out.symm, Below.refl _ _⟩
end Go.Proofs.Ytlakbclnilakbaa
end

section
namespace Go.Proofs.Ytlakbclnilakbaa
open Go.RowKit
set_option maxHeartbeats 400000
set_option maxRecDepth 100000
theorem of_any (n : Int) (w : World) (h1 : -9223372036854775808 ≤ n) (h2 : n ≤ 9223372036854775807) : Calls Try.prog 137 #[.int .i64 n] w fun e w' => e = .returned (.tuple #[.int .i64 (Cl.ofK n), .bool (Cl.ofB n)]) ∧ Below w.heap.size w w' := by
 by_cases c1 : n < 1
 ·have e := Lib.hid (Cl.ofK_out n (.inl c1))
  have e2 := Lib.hid (Cl.ofB_no n (.inl c1))
  go_enter Try.func137, Try.ntmps137
  go_wp2_with fail
  go_ret2
  exact ⟨ret_ib e.out.symm e2.out.symm, Below.refl _ _⟩
 ·by_cases c2 : 256 < n
  ·have e := Lib.hid (Cl.ofK_out n (.inr c2))
   have e2 := Lib.hid (Cl.ofB_no n (.inr c2))
   go_enter Try.func137, Try.ntmps137
   go_wp2_with fail
   refine (most_any _).mono ?_
   rintro e w1 ⟨rfl, hb⟩
   go_wp2_with fail
   go_ret2
   exact ⟨ret_ib e.out.symm e2.out.symm, hb⟩
  ·have hle := Lib.hid (Cl.ofK_least n (by omega) (by omega))
   have e2 := Lib.hid (Cl.ofB_yes n (by omega) (by omega))
   have h31 := Cl.words31
   go_enter Try.func137, Try.ntmps137
   go_wp2_with fail
   refine (most_any _).mono ?_
   rintro e w1 ⟨rfl, hb⟩
   go_wp2_with fail
   go_loopw [4, 5, 6] (fun a b _c wr => ∃ lo hi : Int, 0 ≤ lo ∧ lo ≤ hi ∧ hi ≤ 31 ∧ a = .int .i64 lo ∧ b = .int .i64 hi ∧ Cl.BelowAll n lo ∧ n ≤ Cl.words hi ∧ Below w.heap.size w wr) (fun a b _ _ => (intOf b - intOf a).toNat)
   case atStart => exact ⟨0, 31, by omega, by omega, by omega, rfl, rfl, Cl.BelowAll.zero n, by omega, hb⟩
   case round =>
    obtain ⟨lo, hi, r1, r2, r3, rfl, rfl, hall, hhi, hbe⟩ := hrel
    have hsz := hbe.size
    by_cases hlt : lo < hi
    ·obtain ⟨m, hm⟩ : ∃ m, (lo + hi) / 2 = m := ⟨_, rfl⟩
     have m1 : lo ≤ m := by omega
     have m2 : m < hi := by omega
     by_cases hw : n ≤ Cl.words m
     ·go_wp2_with (first
       | (go_at_call 139; refine (words_any _ _ (by omega) (by omega)).mono ?_; rintro e w2 ⟨rfl, hb2⟩))
      go_roundw
      case rel => exact ⟨lo, m, by omega, by omega, by omega, rfl, rfl, hall, hw, hbe.trans (hb2.mono hsz)⟩
      case measure => simp [intOf]; omega
     ·have hup := Cl.BelowAll.up (j := 0) (show Cl.words m < n by omega) (show m < 32 by omega)
      go_wp2_with (first
       | (go_at_call 139; refine (words_any _ _ (by omega) (by omega)).mono ?_; rintro e w2 ⟨rfl, hb2⟩))
      go_roundw
      case rel => exact ⟨m + 1, hi, by omega, by omega, by omega, rfl, rfl, hup, hhi, hbe.trans (hb2.mono hsz)⟩
      case measure => simp [intOf]; omega
    ·obtain rfl : lo = hi := by omega
     have hq := Lib.hid (hle.out.unique (hall.least r1 (by omega) hhi))
     go_wp2_with fail
     go_ret2
     exact ⟨ret_ib hq.out.symm e2.out.symm, hbe⟩
theorem size_any (p d : Int) (w : World) (h1 : -9223372036854775808 ≤ p) (h2 : p ≤ 9223372036854775807) (h3 : -9223372036854775808 ≤ d) (h4 : d ≤ 9223372036854775807) :
  Calls Try.prog 144 #[.int .i64 p, .int .i64 d] w fun e w' => e = .returned (.tuple #[.int .i64 (Cl.size p d), .int .i64 (Cl.szCode p d)]) ∧ w = w' := by
 by_cases c1 : p < 0
 ·have e := Lib.hid (Cl.size_bad p d (.inl c1))
  go_enter Try.func144, Try.ntmps144
  go_wp2_with fail
  go_ret2
  exact ⟨ret_ii e.out.1.symm e.out.2.symm, rfl⟩
 ·by_cases c2 : p > 63
  ·have e := Lib.hid (Cl.size_bad p d (.inr (.inl c2)))
   go_enter Try.func144, Try.ntmps144
   go_wp2_with fail
   go_ret2
   exact ⟨ret_ii e.out.1.symm e.out.2.symm, rfl⟩
  ·by_cases c3 : d < 0
   ·have e := Lib.hid (Cl.size_bad p d (.inr (.inr (.inl c3))))
    go_enter Try.func144, Try.ntmps144
    go_wp2_with fail
    go_ret2
    exact ⟨ret_ii e.out.1.symm e.out.2.symm, rfl⟩
   ·by_cases c4 : d > 16384
    ·have e := Lib.hid (Cl.size_bad p d (.inr (.inr (.inr c4))))
     go_enter Try.func144, Try.ntmps144
     go_wp2_with fail
     go_ret2
     exact ⟨ret_ii e.out.1.symm e.out.2.symm, rfl⟩
    ·have e := Lib.hid (Cl.size_good p d (by omega) (by omega) (by omega) (by omega))
     go_enter Try.func144, Try.ntmps144
     go_wp2_with fail
     go_ret2
     exact ⟨ret_ii e.out.1.symm e.out.2.symm, rfl⟩
end Go.Proofs.Ytlakbclnilakbaa
end

section
namespace Go.Proofs.Ytlakbclnilakbaa.Cr
open Go Go.RowKit
def step (s : Nat) : Nat := if s % 2 = 1 then (s / 2) ^^^ 3988292384 else s / 2
def steps : Nat → Nat → Nat
 | 0, s => s
 | n + 1, s => steps n (step s)
theorem div_xor (a b k : Nat) : (a ^^^ b) / 2 ^ k = a / 2 ^ k ^^^ b / 2 ^ k := by
 rw [← Nat.shiftRight_eq_div_pow, ← Nat.shiftRight_eq_div_pow, ← Nat.shiftRight_eq_div_pow, Nat.shiftRight_xor_distrib]
theorem mod2_bits : ∀ a < 2, ∀ b < 2, (a ^^^ b) % 2 = (a + b) % 2 := by decide
theorem mod2_xor (a b : Nat) : (a ^^^ b) % 2 = (a % 2 + b % 2) % 2 := by
 have e : (a ^^^ b) % 2 ^ 1 = a % 2 ^ 1 ^^^ b % 2 ^ 1 := by
  apply Nat.eq_of_testBit_eq
  intro i
  simp only [Nat.testBit_mod_two_pow, Nat.testBit_xor]
  by_cases h : i < 1 <;> simp [h]
 have h2 := mod2_bits (a % 2) (by omega) (b % 2) (by omega)
 rw [← h2, show (2 : Nat) = 2 ^ 1 from rfl, ← e, Nat.mod_mod]
theorem xor4 (a b c d : Nat) : (a ^^^ b) ^^^ (c ^^^ d) = (a ^^^ c) ^^^ (b ^^^ d) := by
 rw [Nat.xor_assoc, Nat.xor_assoc]; congr 1; rw [← Nat.xor_assoc, Nat.xor_comm b c, Nat.xor_assoc]
theorem step_xor (a b : Nat) : step (a ^^^ b) = step a ^^^ step b := by
 unfold step
 rw [mod2_xor, show (a ^^^ b) / 2 = a / 2 ^^^ b / 2 from div_xor a b 1]
 rcases Nat.mod_two_eq_zero_or_one a with ha | ha <;> rcases Nat.mod_two_eq_zero_or_one b with hb | hb <;> simp only [ha, hb] <;> simp
 ·rw [Nat.xor_assoc]
 ·rw [Nat.xor_assoc, Nat.xor_comm (b / 2), ← Nat.xor_assoc]
 ·rw [xor4, Nat.xor_self, Nat.xor_zero]
theorem steps_xor (n : Nat) : ∀ a b, steps n (a ^^^ b) = steps n a ^^^ steps n b := by
 induction n with
 | zero => intro a b; rfl
 | succ n ih => intro a b; rw [steps, step_xor, ih]; rfl
theorem steps_add (m n : Nat) : ∀ s, steps (m + n) s = steps n (steps m s) := by
 induction m with
 | zero => intro s; simp [steps]
 | succ m ih => intro s; rw [show m + 1 + n = (m + n) + 1 from by omega, steps, ih]; rfl
theorem steps_succ (n s : Nat) : steps (n + 1) s = step (steps n s) := by rw [steps_add n 1]; rfl
theorem step_even (q : Nat) : step (2 * q) = q := by unfold step; rw [if_neg (by omega)]; omega
theorem steps_16 (q : Nat) : steps 4 (16 * q) = q := by
 show step (step (step (step (16 * q)))) = q
 rw [show 16 * q = 2 * (8 * q) from by omega, step_even, show 8 * q = 2 * (4 * q) from by omega, step_even, show 4 * q = 2 * (2 * q) from by omega, step_even, step_even]
theorem split16 (s : Nat) : s = (16 * (s / 16)) ^^^ (s % 16) := by
 have h : 2 ^ 4 * (s / 16) + s % 16 = 2 ^ 4 * (s / 16) ||| s % 16 := Nat.two_pow_add_eq_or_of_lt (by omega) _
 have hx : 2 ^ 4 * (s / 16) ^^^ s % 16 = 2 ^ 4 * (s / 16) + s % 16 := by
  apply Nat.eq_of_testBit_eq
  intro i
  rw [h, Nat.testBit_xor, Nat.testBit_or, Nat.testBit_two_pow_mul]
  by_cases hi : 4 ≤ i
  ·have : (s % 16).testBit i = false := Nat.testBit_lt_two_pow (Nat.lt_of_lt_of_le (show s % 16 < 2 ^ 4 by omega) (Nat.pow_le_pow_right (by decide) hi))
   rw [this]; simp
  ·simp [hi]
 rw [show 16 * (s / 16) = 2 ^ 4 * (s / 16) from rfl, hx]
 omega
def tab (i : Nat) : Nat := steps 4 i
theorem steps4 (s : Nat) : steps 4 s = tab (s % 16) ^^^ (s / 16) := by
 conv => lhs; rw [split16 s]
 rw [steps_xor, steps_16, Nat.xor_comm]; rfl
theorem step_lt (s : Nat) (h : s < 4294967296) : step s < 4294967296 := by
 unfold step
 split
 ·exact Nat.xor_lt_two_pow (n := 32) (by omega) (by omega)
 ·omega
theorem steps_lt (n : Nat) : ∀ s, s < 4294967296 → steps n s < 4294967296 := by
 induction n with
 | zero => intro s h; exact h
 | succ n ih => intro s h; exact ih _ (step_lt s h)
/-- the code's two steps of a byte -/
theorem byte_steps (s b : Nat) (hb : b < 256) :
  tab ((tab ((s ^^^ b) % 16) ^^^ s / 16 ^^^ b / 16) % 16) ^^^ (tab ((s ^^^ b) % 16) ^^^ s / 16) / 16 = steps 8 (s ^^^ b) := by
 rw [show (8 : Nat) = 4 + 4 from rfl, steps_add, steps4 (s ^^^ b)]
 have e : (s ^^^ b) / 16 = s / 16 ^^^ b / 16 := div_xor s b 4
 rw [e, ← Nat.xor_assoc, steps4]
 have e2 : (tab ((s ^^^ b) % 16) ^^^ s / 16 ^^^ b / 16) / 16 = (tab ((s ^^^ b) % 16) ^^^ s / 16) / 16 ^^^ b / 16 / 16 := div_xor _ _ 4
 rw [e2, show b / 16 / 16 = 0 from by omega, Nat.xor_zero]
/-! the sums, as integers -/
def tabI (i : Int) : Int := (tab (i % 16).toNat : Nat)
theorem tab_lt (i : Nat) (h : i < 16) : tab i < 4294967296 := steps_lt 4 i (by omega)
theorem tabI_bd (i : Int) : 0 ≤ tabI i ∧ tabI i ≤ 4294967295 := by
 have := tab_lt (i % 16).toNat (by omega)
 unfold tabI; omega
def byte (s b : Int) : Int := (steps 8 (s.toNat ^^^ b.toNat) : Nat)
theorem byte_bd (s b : Int) (h0 : 0 ≤ s) (h1 : s ≤ 4294967295) (h2 : 0 ≤ b) (h3 : b ≤ 255) : 0 ≤ byte s b ∧ byte s b ≤ 4294967295 := by
 have hx : s.toNat ^^^ b.toNat < 4294967296 := Nat.xor_lt_two_pow (n := 32) (by omega) (by omega)
 have := steps_lt 8 _ hx
 unfold byte; omega
def run (s : Int) (l : List Int) : Int := l.foldl byte s
theorem run_snoc (s : Int) (l : List Int) (b : Int) : run s (l ++ [b]) = byte (run s l) b := by unfold run; rw [List.foldl_append]; rfl
theorem run_bd (l : List Int) : ∀ s : Int, 0 ≤ s → s ≤ 4294967295 → (∀ b ∈ l, 0 ≤ b ∧ b ≤ 255) → 0 ≤ run s l ∧ run s l ≤ 4294967295 := by
 induction l with
 | nil => intro s h0 h1 _; exact ⟨h0, h1⟩
 | cons b l ih =>
  intro s h0 h1 hb
  have hb0 := hb b (by simp)
  have h2 := byte_bd s b h0 h1 hb0.1 hb0.2
  exact ih _ h2.1 h2.2 (fun c hc => hb c (by simp [hc]))
def more (s : Int) (l : List Int) : Int := 4294967295 - run (4294967295 - s) l
theorem more_bd (s : Int) (l : List Int) (h0 : 0 ≤ s) (h1 : s ≤ 4294967295) (hb : ∀ b ∈ l, 0 ≤ b ∧ b ≤ 255) : 0 ≤ more s l ∧ more s l ≤ 4294967295 := by
 have := run_bd l (4294967295 - s) (by omega) (by omega) hb
 unfold more; omega
theorem low_xor (a b : Nat) : (a % 256 ^^^ b) % 16 = (a ^^^ b) % 16 := by
 apply Nat.eq_of_testBit_eq
 intro i
 rw [show (16 : Nat) = 2 ^ 4 from rfl, show (256 : Nat) = 2 ^ 8 from rfl, Nat.testBit_mod_two_pow, Nat.testBit_mod_two_pow, Nat.testBit_xor, Nat.testBit_xor, Nat.testBit_mod_two_pow]
 by_cases hi : i < 4
 ·have : i < 8 := by omega
  simp [this]
 ·simp [hi]
theorem half_code (s b : Int) (h0 : 0 ≤ s) (h1 : s ≤ 4294967295) (h2 : 0 ≤ b) (h3 : b ≤ 255) :
  bits .xor .u32 (tabI (bits .xor .u8 (s % 256) b)) (s / 16) = ((tab ((s.toNat ^^^ b.toNat) % 16) ^^^ s.toNat / 16 : Nat) : Int) ∧
  0 ≤ bits .xor .u8 (s % 256) b ∧ bits .xor .u8 (s % 256) b ≤ 255 := by
 obtain ⟨S, rfl⟩ := Int.eq_ofNat_of_zero_le h0
 obtain ⟨B, rfl⟩ := Int.eq_ofNat_of_zero_le h2
 have e1 : (S : Int) % 256 = ((S % 256 : Nat) : Int) := by omega
 rw [e1, u8_xor_nat _ _ (by omega) (by omega)]
 have hlt : S % 256 ^^^ B < 256 := Nat.xor_lt_two_pow (n := 8) (by omega) (by omega)
 refine ⟨?_, by omega, by omega⟩
 have e2 : tabI ((S % 256 ^^^ B : Nat) : Int) = ((tab ((S ^^^ B) % 16) : Nat) : Int) := by
  unfold tabI
  rw [show (((S % 256 ^^^ B : Nat) : Int) % 16).toNat = (S % 256 ^^^ B) % 16 from by omega, low_xor]
 rw [e2, show ((S : Int) / 16) = ((S / 16 : Nat) : Int) from by omega, u32_xor_nat _ _ (tab_lt _ (by omega)) (by omega)]
 rfl
theorem byte_code (s b s1 : Int) (h0 : 0 ≤ s) (h1 : s ≤ 4294967295) (h2 : 0 ≤ b) (h3 : b ≤ 255) (e1 : bits .xor .u32 (tabI (bits .xor .u8 (s % 256) b)) (s / 16) = s1) :
  bits .xor .u32 (tabI (bits .xor .u8 (s1 % 256) (b / 16))) (s1 / 16) = byte s b := by
 have hh := half_code s b h0 h1 h2 h3
 rw [hh.1] at e1
 have hs1 : tab ((s.toNat ^^^ b.toNat) % 16) ^^^ s.toNat / 16 < 4294967296 := Nat.xor_lt_two_pow (n := 32) (tab_lt _ (by omega)) (by omega)
 have h4 := half_code s1 (b / 16) (by omega) (by omega) (by omega) (by omega)
 rw [h4.1]
 unfold byte
 rw [← byte_steps _ _ (by omega), ← e1, show (b / 16).toNat = b.toNat / 16 from by omega, Int.toNat_natCast]
def stepI (s : Int) (n : Nat) : Int := (steps n s.toNat : Nat)
theorem stepI_bd (s : Int) (n : Nat) (h0 : 0 ≤ s) (h1 : s ≤ 4294967295) : 0 ≤ stepI s n ∧ stepI s n ≤ 4294967295 := by
 have := steps_lt n s.toNat (by omega)
 unfold stepI; omega
theorem stepI_zero (s : Int) (h0 : 0 ≤ s) : stepI s 0 = s := by unfold stepI steps; omega
theorem stepI_odd (s : Int) (n : Nat) (h0 : 0 ≤ s) (h1 : s ≤ 4294967295) (h : stepI s n % 2 = 1) : bits .xor .u32 (stepI s n / 2) 3988292384 = stepI s (n + 1) := by
 have := steps_lt n s.toNat (by omega)
 unfold stepI at *
 rw [steps_succ]
 generalize steps n s.toNat = r at *
 have e : ((r : Int) / 2) = ((r / 2 : Nat) : Int) := by omega
 have e2 := u32_xor_nat (r / 2) 3988292384 (by omega) (by decide)
 unfold step
 rw [if_pos (by omega), e, ← e2]; rfl
theorem stepI_even (s : Int) (n : Nat) (h0 : 0 ≤ s) (h1 : s ≤ 4294967295) (h : ¬ stepI s n % 2 = 1) : stepI s n / 2 = stepI s (n + 1) := by
 unfold stepI at *
 rw [steps_succ]
 generalize steps n s.toNat = r at *
 unfold step
 rw [if_neg (by omega)]; omega
theorem xor_byte (s b : Int) (h0 : 0 ≤ s) (h1 : s ≤ 4294967295) (h2 : 0 ≤ b) (h3 : b ≤ 255) : 0 ≤ bits .xor .u32 s b ∧ bits .xor .u32 s b ≤ 4294967295 ∧ stepI (bits .xor .u32 s b) 8 = byte s b := by
 obtain ⟨S, rfl⟩ := Int.eq_ofNat_of_zero_le h0
 obtain ⟨B, rfl⟩ := Int.eq_ofNat_of_zero_le h2
 have hlt : S ^^^ B < 4294967296 := Nat.xor_lt_two_pow (n := 32) (by omega) (by omega)
 rw [u32_xor_nat _ _ (by omega) (by omega)]
 refine ⟨by omega, by omega, ?_⟩
 unfold stepI byte; simp only [Int.toNat_natCast]
theorem half_bd (s b s1 : Int) (h0 : 0 ≤ s) (h1 : s ≤ 4294967295) (h2 : 0 ≤ b) (h3 : b ≤ 255) (e1 : bits .xor .u32 (tabI (bits .xor .u8 (s % 256) b)) (s / 16) = s1) : 0 ≤ s1 ∧ s1 ≤ 4294967295 := by
 have hh := half_code s b h0 h1 h2 h3
 rw [hh.1] at e1
 have hs1 : tab ((s.toNat ^^^ b.toNat) % 16) ^^^ s.toNat / 16 < 4294967296 := Nat.xor_lt_two_pow (n := 32) (tab_lt _ (by omega)) (by omega)
 omega
theorem not_code (s : Int) (h0 : 0 ≤ s) (h1 : s ≤ 4294967295) : bits .xor .u32 IntKind.u32.max s = 4294967295 - s := by
 obtain ⟨S, rfl⟩ := Int.eq_ofNat_of_zero_le h0
 have e : IntKind.u32.max = ((4294967295 : Nat) : Int) := by decide
 rw [e, u32_xor_nat _ _ (by decide) (by omega)]
 have h : 4294967295 ^^^ S = 2 ^ 32 - (S + 1) := by
  apply Nat.eq_of_testBit_eq
  intro i
  rw [Nat.testBit_xor, Nat.testBit_two_pow_sub_succ (by omega), show (4294967295 : Nat) = 2 ^ 32 - 1 from rfl, Nat.testBit_two_pow_sub_one]
  by_cases hi : i < 32
  ·simp [hi]
  ·have : S.testBit i = false := Nat.testBit_lt_two_pow (Nat.lt_of_lt_of_le (show S < 2 ^ 32 by omega) (Nat.pow_le_pow_right (by decide) (by omega)))
   rw [this]; simp [hi]
 rw [h]; omega
theorem more_code (s : Int) (l : List Int) (h0 : 0 ≤ s) (h1 : s ≤ 4294967295) (hb : ∀ b ∈ l, 0 ≤ b ∧ b ≤ 255) : bits .xor .u32 IntKind.u32.max (run (4294967295 - s) l) = more s l := by
 have := run_bd l (4294967295 - s) (by omega) (by omega) hb
 rw [not_code _ this.1 this.2]; rfl
end Go.Proofs.Ytlakbclnilakbaa.Cr
end

section
namespace Go.Proofs.Ytlakbclnilakbaa
open Go.RowKit
set_option maxHeartbeats 400000
theorem tab_i0 (w : World) : (Instr.index 217 (.agg #[.int .u32 0, .int .u32 498536548, .int .u32 997073096, .int .u32 651767980, .int .u32 1994146192, .int .u32 1802195444, .int .u32 1303535960, .int .u32 1342533948, .int .u32 3988292384, .int .u32 4027552580, .int .u32 3604390888, .int .u32 3412177804, .int .u32 2607071920, .int .u32 2262029012, .int .u32 2685067896, .int .u32 3183342108]) (.int .u8 0)).run Try.prog w = .ok (.int .u32 0) w := by kernel_rfl
theorem tab_i1 (w : World) : (Instr.index 217 (.agg #[.int .u32 0, .int .u32 498536548, .int .u32 997073096, .int .u32 651767980, .int .u32 1994146192, .int .u32 1802195444, .int .u32 1303535960, .int .u32 1342533948, .int .u32 3988292384, .int .u32 4027552580, .int .u32 3604390888, .int .u32 3412177804, .int .u32 2607071920, .int .u32 2262029012, .int .u32 2685067896, .int .u32 3183342108]) (.int .u8 1)).run Try.prog w = .ok (.int .u32 498536548) w := by kernel_rfl
theorem tab_i2 (w : World) : (Instr.index 217 (.agg #[.int .u32 0, .int .u32 498536548, .int .u32 997073096, .int .u32 651767980, .int .u32 1994146192, .int .u32 1802195444, .int .u32 1303535960, .int .u32 1342533948, .int .u32 3988292384, .int .u32 4027552580, .int .u32 3604390888, .int .u32 3412177804, .int .u32 2607071920, .int .u32 2262029012, .int .u32 2685067896, .int .u32 3183342108]) (.int .u8 2)).run Try.prog w = .ok (.int .u32 997073096) w := by kernel_rfl
theorem tab_i3 (w : World) : (Instr.index 217 (.agg #[.int .u32 0, .int .u32 498536548, .int .u32 997073096, .int .u32 651767980, .int .u32 1994146192, .int .u32 1802195444, .int .u32 1303535960, .int .u32 1342533948, .int .u32 3988292384, .int .u32 4027552580, .int .u32 3604390888, .int .u32 3412177804, .int .u32 2607071920, .int .u32 2262029012, .int .u32 2685067896, .int .u32 3183342108]) (.int .u8 3)).run Try.prog w = .ok (.int .u32 651767980) w := by kernel_rfl
theorem tab_i4 (w : World) : (Instr.index 217 (.agg #[.int .u32 0, .int .u32 498536548, .int .u32 997073096, .int .u32 651767980, .int .u32 1994146192, .int .u32 1802195444, .int .u32 1303535960, .int .u32 1342533948, .int .u32 3988292384, .int .u32 4027552580, .int .u32 3604390888, .int .u32 3412177804, .int .u32 2607071920, .int .u32 2262029012, .int .u32 2685067896, .int .u32 3183342108]) (.int .u8 4)).run Try.prog w = .ok (.int .u32 1994146192) w := by kernel_rfl
theorem tab_i5 (w : World) : (Instr.index 217 (.agg #[.int .u32 0, .int .u32 498536548, .int .u32 997073096, .int .u32 651767980, .int .u32 1994146192, .int .u32 1802195444, .int .u32 1303535960, .int .u32 1342533948, .int .u32 3988292384, .int .u32 4027552580, .int .u32 3604390888, .int .u32 3412177804, .int .u32 2607071920, .int .u32 2262029012, .int .u32 2685067896, .int .u32 3183342108]) (.int .u8 5)).run Try.prog w = .ok (.int .u32 1802195444) w := by kernel_rfl
theorem tab_i6 (w : World) : (Instr.index 217 (.agg #[.int .u32 0, .int .u32 498536548, .int .u32 997073096, .int .u32 651767980, .int .u32 1994146192, .int .u32 1802195444, .int .u32 1303535960, .int .u32 1342533948, .int .u32 3988292384, .int .u32 4027552580, .int .u32 3604390888, .int .u32 3412177804, .int .u32 2607071920, .int .u32 2262029012, .int .u32 2685067896, .int .u32 3183342108]) (.int .u8 6)).run Try.prog w = .ok (.int .u32 1303535960) w := by kernel_rfl
theorem tab_i7 (w : World) : (Instr.index 217 (.agg #[.int .u32 0, .int .u32 498536548, .int .u32 997073096, .int .u32 651767980, .int .u32 1994146192, .int .u32 1802195444, .int .u32 1303535960, .int .u32 1342533948, .int .u32 3988292384, .int .u32 4027552580, .int .u32 3604390888, .int .u32 3412177804, .int .u32 2607071920, .int .u32 2262029012, .int .u32 2685067896, .int .u32 3183342108]) (.int .u8 7)).run Try.prog w = .ok (.int .u32 1342533948) w := by kernel_rfl
theorem tab_i8 (w : World) : (Instr.index 217 (.agg #[.int .u32 0, .int .u32 498536548, .int .u32 997073096, .int .u32 651767980, .int .u32 1994146192, .int .u32 1802195444, .int .u32 1303535960, .int .u32 1342533948, .int .u32 3988292384, .int .u32 4027552580, .int .u32 3604390888, .int .u32 3412177804, .int .u32 2607071920, .int .u32 2262029012, .int .u32 2685067896, .int .u32 3183342108]) (.int .u8 8)).run Try.prog w = .ok (.int .u32 3988292384) w := by kernel_rfl
theorem tab_i9 (w : World) : (Instr.index 217 (.agg #[.int .u32 0, .int .u32 498536548, .int .u32 997073096, .int .u32 651767980, .int .u32 1994146192, .int .u32 1802195444, .int .u32 1303535960, .int .u32 1342533948, .int .u32 3988292384, .int .u32 4027552580, .int .u32 3604390888, .int .u32 3412177804, .int .u32 2607071920, .int .u32 2262029012, .int .u32 2685067896, .int .u32 3183342108]) (.int .u8 9)).run Try.prog w = .ok (.int .u32 4027552580) w := by kernel_rfl
theorem tab_i10 (w : World) : (Instr.index 217 (.agg #[.int .u32 0, .int .u32 498536548, .int .u32 997073096, .int .u32 651767980, .int .u32 1994146192, .int .u32 1802195444, .int .u32 1303535960, .int .u32 1342533948, .int .u32 3988292384, .int .u32 4027552580, .int .u32 3604390888, .int .u32 3412177804, .int .u32 2607071920, .int .u32 2262029012, .int .u32 2685067896, .int .u32 3183342108]) (.int .u8 10)).run Try.prog w = .ok (.int .u32 3604390888) w := by kernel_rfl
theorem tab_i11 (w : World) : (Instr.index 217 (.agg #[.int .u32 0, .int .u32 498536548, .int .u32 997073096, .int .u32 651767980, .int .u32 1994146192, .int .u32 1802195444, .int .u32 1303535960, .int .u32 1342533948, .int .u32 3988292384, .int .u32 4027552580, .int .u32 3604390888, .int .u32 3412177804, .int .u32 2607071920, .int .u32 2262029012, .int .u32 2685067896, .int .u32 3183342108]) (.int .u8 11)).run Try.prog w = .ok (.int .u32 3412177804) w := by kernel_rfl
theorem tab_i12 (w : World) : (Instr.index 217 (.agg #[.int .u32 0, .int .u32 498536548, .int .u32 997073096, .int .u32 651767980, .int .u32 1994146192, .int .u32 1802195444, .int .u32 1303535960, .int .u32 1342533948, .int .u32 3988292384, .int .u32 4027552580, .int .u32 3604390888, .int .u32 3412177804, .int .u32 2607071920, .int .u32 2262029012, .int .u32 2685067896, .int .u32 3183342108]) (.int .u8 12)).run Try.prog w = .ok (.int .u32 2607071920) w := by kernel_rfl
theorem tab_i13 (w : World) : (Instr.index 217 (.agg #[.int .u32 0, .int .u32 498536548, .int .u32 997073096, .int .u32 651767980, .int .u32 1994146192, .int .u32 1802195444, .int .u32 1303535960, .int .u32 1342533948, .int .u32 3988292384, .int .u32 4027552580, .int .u32 3604390888, .int .u32 3412177804, .int .u32 2607071920, .int .u32 2262029012, .int .u32 2685067896, .int .u32 3183342108]) (.int .u8 13)).run Try.prog w = .ok (.int .u32 2262029012) w := by kernel_rfl
theorem tab_i14 (w : World) : (Instr.index 217 (.agg #[.int .u32 0, .int .u32 498536548, .int .u32 997073096, .int .u32 651767980, .int .u32 1994146192, .int .u32 1802195444, .int .u32 1303535960, .int .u32 1342533948, .int .u32 3988292384, .int .u32 4027552580, .int .u32 3604390888, .int .u32 3412177804, .int .u32 2607071920, .int .u32 2262029012, .int .u32 2685067896, .int .u32 3183342108]) (.int .u8 14)).run Try.prog w = .ok (.int .u32 2685067896) w := by kernel_rfl
theorem tab_i15 (w : World) : (Instr.index 217 (.agg #[.int .u32 0, .int .u32 498536548, .int .u32 997073096, .int .u32 651767980, .int .u32 1994146192, .int .u32 1802195444, .int .u32 1303535960, .int .u32 1342533948, .int .u32 3988292384, .int .u32 4027552580, .int .u32 3604390888, .int .u32 3412177804, .int .u32 2607071920, .int .u32 2262029012, .int .u32 2685067896, .int .u32 3183342108]) (.int .u8 15)).run Try.prog w = .ok (.int .u32 3183342108) w := by kernel_rfl
theorem table_at0 (i : Int) (w : World) (h1 : 0 ≤ i) (h2 : i ≤ 255) (hc : i % 16 = 0) :
  Calls Try.prog 174 #[.int .u8 i] w fun e w' => e = .returned (.int .u32 (Cr.tabI i)) ∧ w = w' := by
 have hb : bits .and .u8 i 15 = 0 := by rw [u8_and15 (x := i) h1 (by omega), hc]
 have hv : Cr.tabI i = 0 := by unfold Cr.tabI; rw [hc]; decide
 have hx := tab_i0
 rw [hv]
 clear hv hc
 go_enter Try.func174, Try.ntmps174
 go_wp2_with fail
 go_ret
 exact ⟨rfl, rfl⟩
theorem table_at1 (i : Int) (w : World) (h1 : 0 ≤ i) (h2 : i ≤ 255) (hc : i % 16 = 1) :
  Calls Try.prog 174 #[.int .u8 i] w fun e w' => e = .returned (.int .u32 (Cr.tabI i)) ∧ w = w' := by
 have hb : bits .and .u8 i 15 = 1 := by rw [u8_and15 (x := i) h1 (by omega), hc]
 have hv : Cr.tabI i = 498536548 := by unfold Cr.tabI; rw [hc]; decide
 have hx := tab_i1
 rw [hv]
 clear hv hc
 go_enter Try.func174, Try.ntmps174
 go_wp2_with fail
 go_ret
 exact ⟨rfl, rfl⟩
theorem table_at2 (i : Int) (w : World) (h1 : 0 ≤ i) (h2 : i ≤ 255) (hc : i % 16 = 2) :
  Calls Try.prog 174 #[.int .u8 i] w fun e w' => e = .returned (.int .u32 (Cr.tabI i)) ∧ w = w' := by
 have hb : bits .and .u8 i 15 = 2 := by rw [u8_and15 (x := i) h1 (by omega), hc]
 have hv : Cr.tabI i = 997073096 := by unfold Cr.tabI; rw [hc]; decide
 have hx := tab_i2
 rw [hv]
 clear hv hc
 go_enter Try.func174, Try.ntmps174
 go_wp2_with fail
 go_ret
 exact ⟨rfl, rfl⟩
theorem table_at3 (i : Int) (w : World) (h1 : 0 ≤ i) (h2 : i ≤ 255) (hc : i % 16 = 3) :
  Calls Try.prog 174 #[.int .u8 i] w fun e w' => e = .returned (.int .u32 (Cr.tabI i)) ∧ w = w' := by
 have hb : bits .and .u8 i 15 = 3 := by rw [u8_and15 (x := i) h1 (by omega), hc]
 have hv : Cr.tabI i = 651767980 := by unfold Cr.tabI; rw [hc]; decide
 have hx := tab_i3
 rw [hv]
 clear hv hc
 go_enter Try.func174, Try.ntmps174
 go_wp2_with fail
 go_ret
 exact ⟨rfl, rfl⟩
theorem table_at4 (i : Int) (w : World) (h1 : 0 ≤ i) (h2 : i ≤ 255) (hc : i % 16 = 4) :
  Calls Try.prog 174 #[.int .u8 i] w fun e w' => e = .returned (.int .u32 (Cr.tabI i)) ∧ w = w' := by
 have hb : bits .and .u8 i 15 = 4 := by rw [u8_and15 (x := i) h1 (by omega), hc]
 have hv : Cr.tabI i = 1994146192 := by unfold Cr.tabI; rw [hc]; decide
 have hx := tab_i4
 rw [hv]
 clear hv hc
 go_enter Try.func174, Try.ntmps174
 go_wp2_with fail
 go_ret
 exact ⟨rfl, rfl⟩
theorem table_at5 (i : Int) (w : World) (h1 : 0 ≤ i) (h2 : i ≤ 255) (hc : i % 16 = 5) :
  Calls Try.prog 174 #[.int .u8 i] w fun e w' => e = .returned (.int .u32 (Cr.tabI i)) ∧ w = w' := by
 have hb : bits .and .u8 i 15 = 5 := by rw [u8_and15 (x := i) h1 (by omega), hc]
 have hv : Cr.tabI i = 1802195444 := by unfold Cr.tabI; rw [hc]; decide
 have hx := tab_i5
 rw [hv]
 clear hv hc
 go_enter Try.func174, Try.ntmps174
 go_wp2_with fail
 go_ret
 exact ⟨rfl, rfl⟩
theorem table_at6 (i : Int) (w : World) (h1 : 0 ≤ i) (h2 : i ≤ 255) (hc : i % 16 = 6) :
  Calls Try.prog 174 #[.int .u8 i] w fun e w' => e = .returned (.int .u32 (Cr.tabI i)) ∧ w = w' := by
 have hb : bits .and .u8 i 15 = 6 := by rw [u8_and15 (x := i) h1 (by omega), hc]
 have hv : Cr.tabI i = 1303535960 := by unfold Cr.tabI; rw [hc]; decide
 have hx := tab_i6
 rw [hv]
 clear hv hc
 go_enter Try.func174, Try.ntmps174
 go_wp2_with fail
 go_ret
 exact ⟨rfl, rfl⟩
theorem table_at7 (i : Int) (w : World) (h1 : 0 ≤ i) (h2 : i ≤ 255) (hc : i % 16 = 7) :
  Calls Try.prog 174 #[.int .u8 i] w fun e w' => e = .returned (.int .u32 (Cr.tabI i)) ∧ w = w' := by
 have hb : bits .and .u8 i 15 = 7 := by rw [u8_and15 (x := i) h1 (by omega), hc]
 have hv : Cr.tabI i = 1342533948 := by unfold Cr.tabI; rw [hc]; decide
 have hx := tab_i7
 rw [hv]
 clear hv hc
 go_enter Try.func174, Try.ntmps174
 go_wp2_with fail
 go_ret
 exact ⟨rfl, rfl⟩
theorem table_at8 (i : Int) (w : World) (h1 : 0 ≤ i) (h2 : i ≤ 255) (hc : i % 16 = 8) :
  Calls Try.prog 174 #[.int .u8 i] w fun e w' => e = .returned (.int .u32 (Cr.tabI i)) ∧ w = w' := by
 have hb : bits .and .u8 i 15 = 8 := by rw [u8_and15 (x := i) h1 (by omega), hc]
 have hv : Cr.tabI i = 3988292384 := by unfold Cr.tabI; rw [hc]; decide
 have hx := tab_i8
 rw [hv]
 clear hv hc
 go_enter Try.func174, Try.ntmps174
 go_wp2_with fail
 go_ret
 exact ⟨rfl, rfl⟩
theorem table_at9 (i : Int) (w : World) (h1 : 0 ≤ i) (h2 : i ≤ 255) (hc : i % 16 = 9) :
  Calls Try.prog 174 #[.int .u8 i] w fun e w' => e = .returned (.int .u32 (Cr.tabI i)) ∧ w = w' := by
 have hb : bits .and .u8 i 15 = 9 := by rw [u8_and15 (x := i) h1 (by omega), hc]
 have hv : Cr.tabI i = 4027552580 := by unfold Cr.tabI; rw [hc]; decide
 have hx := tab_i9
 rw [hv]
 clear hv hc
 go_enter Try.func174, Try.ntmps174
 go_wp2_with fail
 go_ret
 exact ⟨rfl, rfl⟩
theorem table_at10 (i : Int) (w : World) (h1 : 0 ≤ i) (h2 : i ≤ 255) (hc : i % 16 = 10) :
  Calls Try.prog 174 #[.int .u8 i] w fun e w' => e = .returned (.int .u32 (Cr.tabI i)) ∧ w = w' := by
 have hb : bits .and .u8 i 15 = 10 := by rw [u8_and15 (x := i) h1 (by omega), hc]
 have hv : Cr.tabI i = 3604390888 := by unfold Cr.tabI; rw [hc]; decide
 have hx := tab_i10
 rw [hv]
 clear hv hc
 go_enter Try.func174, Try.ntmps174
 go_wp2_with fail
 go_ret
 exact ⟨rfl, rfl⟩
theorem table_at11 (i : Int) (w : World) (h1 : 0 ≤ i) (h2 : i ≤ 255) (hc : i % 16 = 11) :
  Calls Try.prog 174 #[.int .u8 i] w fun e w' => e = .returned (.int .u32 (Cr.tabI i)) ∧ w = w' := by
 have hb : bits .and .u8 i 15 = 11 := by rw [u8_and15 (x := i) h1 (by omega), hc]
 have hv : Cr.tabI i = 3412177804 := by unfold Cr.tabI; rw [hc]; decide
 have hx := tab_i11
 rw [hv]
 clear hv hc
 go_enter Try.func174, Try.ntmps174
 go_wp2_with fail
 go_ret
 exact ⟨rfl, rfl⟩
theorem table_at12 (i : Int) (w : World) (h1 : 0 ≤ i) (h2 : i ≤ 255) (hc : i % 16 = 12) :
  Calls Try.prog 174 #[.int .u8 i] w fun e w' => e = .returned (.int .u32 (Cr.tabI i)) ∧ w = w' := by
 have hb : bits .and .u8 i 15 = 12 := by rw [u8_and15 (x := i) h1 (by omega), hc]
 have hv : Cr.tabI i = 2607071920 := by unfold Cr.tabI; rw [hc]; decide
 have hx := tab_i12
 rw [hv]
 clear hv hc
 go_enter Try.func174, Try.ntmps174
 go_wp2_with fail
 go_ret
 exact ⟨rfl, rfl⟩
theorem table_at13 (i : Int) (w : World) (h1 : 0 ≤ i) (h2 : i ≤ 255) (hc : i % 16 = 13) :
  Calls Try.prog 174 #[.int .u8 i] w fun e w' => e = .returned (.int .u32 (Cr.tabI i)) ∧ w = w' := by
 have hb : bits .and .u8 i 15 = 13 := by rw [u8_and15 (x := i) h1 (by omega), hc]
 have hv : Cr.tabI i = 2262029012 := by unfold Cr.tabI; rw [hc]; decide
 have hx := tab_i13
 rw [hv]
 clear hv hc
 go_enter Try.func174, Try.ntmps174
 go_wp2_with fail
 go_ret
 exact ⟨rfl, rfl⟩
theorem table_at14 (i : Int) (w : World) (h1 : 0 ≤ i) (h2 : i ≤ 255) (hc : i % 16 = 14) :
  Calls Try.prog 174 #[.int .u8 i] w fun e w' => e = .returned (.int .u32 (Cr.tabI i)) ∧ w = w' := by
 have hb : bits .and .u8 i 15 = 14 := by rw [u8_and15 (x := i) h1 (by omega), hc]
 have hv : Cr.tabI i = 2685067896 := by unfold Cr.tabI; rw [hc]; decide
 have hx := tab_i14
 rw [hv]
 clear hv hc
 go_enter Try.func174, Try.ntmps174
 go_wp2_with fail
 go_ret
 exact ⟨rfl, rfl⟩
theorem table_at15 (i : Int) (w : World) (h1 : 0 ≤ i) (h2 : i ≤ 255) (hc : i % 16 = 15) :
  Calls Try.prog 174 #[.int .u8 i] w fun e w' => e = .returned (.int .u32 (Cr.tabI i)) ∧ w = w' := by
 have hb : bits .and .u8 i 15 = 15 := by rw [u8_and15 (x := i) h1 (by omega), hc]
 have hv : Cr.tabI i = 3183342108 := by unfold Cr.tabI; rw [hc]; decide
 have hx := tab_i15
 rw [hv]
 clear hv hc
 go_enter Try.func174, Try.ntmps174
 go_wp2_with fail
 go_ret
 exact ⟨rfl, rfl⟩
theorem table_any (i : Int) (w : World) (h1 : 0 ≤ i) (h2 : i ≤ 255) :
  Calls Try.prog 174 #[.int .u8 i] w fun e w' => e = .returned (.int .u32 (Cr.tabI i)) ∧ w = w' := by
 rcases (show i % 16 = 0 ∨ i % 16 = 1 ∨ i % 16 = 2 ∨ i % 16 = 3 ∨ i % 16 = 4 ∨ i % 16 = 5 ∨ i % 16 = 6 ∨ i % 16 = 7 ∨ i % 16 = 8 ∨ i % 16 = 9 ∨ i % 16 = 10 ∨ i % 16 = 11 ∨ i % 16 = 12 ∨ i % 16 = 13 ∨ i % 16 = 14 ∨ i % 16 = 15 from by omega) with
  h | h | h | h | h | h | h | h | h | h | h | h | h | h | h | h
 ·exact table_at0 i w h1 h2 h
 ·exact table_at1 i w h1 h2 h
 ·exact table_at2 i w h1 h2 h
 ·exact table_at3 i w h1 h2 h
 ·exact table_at4 i w h1 h2 h
 ·exact table_at5 i w h1 h2 h
 ·exact table_at6 i w h1 h2 h
 ·exact table_at7 i w h1 h2 h
 ·exact table_at8 i w h1 h2 h
 ·exact table_at9 i w h1 h2 h
 ·exact table_at10 i w h1 h2 h
 ·exact table_at11 i w h1 h2 h
 ·exact table_at12 i w h1 h2 h
 ·exact table_at13 i w h1 h2 h
 ·exact table_at14 i w h1 h2 h
 ·exact table_at15 i w h1 h2 h
end Go.Proofs.Ytlakbclnilakbaa
end

section
namespace Go.Proofs.Ytlakbclnilakbaa
open Go.RowKit
set_option maxHeartbeats 400000
theorem more_any (s : Int) (A : Option Addr) (len cap : Nat) (xs : List Int) (B : Nat) (w : World) (h1 : 0 ≤ s) (h2 : s ≤ 4294967295) (hr : RowAt w B A len (xs.map (Value.int .u8))) (hi : Ints .u8 xs) (hl : len ≤ 9223372036854775807) :
  Calls Try.prog 173 #[.int .u32 s, .slice A len cap] w fun e w' => e = .returned (.int .u32 (Cr.more s xs)) ∧ w = w' := by
 have hb : ∀ b ∈ xs, 0 ≤ b ∧ b ≤ 255 := fun b hb => bounds_u8 (hi b hb)
 have HB := Lib.hid hb
 have HI := Lib.hid hi
 have HR := Lib.hid hr
 have hlen : xs.length = len := by simpa using hr.1
 have HL := Lib.hid hlen
 clear hb hi hr hlen
 have hn := Cr.not_code s h1 h2
 have hfin := Lib.hid (Cr.more_code s xs h1 h2 HB.out)
 go_enter Try.func173, Try.ntmps173
 go_wp2_with fail
 go_loop [0, 6, 11] (fun s' _u t => ∃ j : Nat, j ≤ len ∧ t = .int .i64 j ∧ s' = .int .u32 (Cr.run (4294967295 - s) (xs.take j))) (fun _ _ t => len - (intOf t).toNat)
 case atStart => exact ⟨0, by omega, rfl, rfl⟩
 case round =>
  obtain ⟨j, hj, rfl, rfl⟩ := hrel
  have hbd := Cr.run_bd (xs.take j) (4294967295 - s) (by omega) (by omega) (fun b hb => HB.out b (List.mem_of_mem_take hb))
  by_cases hlt : j < len
  ·obtain ⟨b, off, z, rfl, hbl, hz, hwz, hc⟩ := HR.out.int HI.out hlt
   have hzb := bounds_u8 hwz
   have HN := Lib.hid (Cr.run_snoc (4294967295 - s) (xs.take j) z)
   have HT := Lib.hid (take_succ_of hz)
   clear hz hwz
   generalize Cr.run (4294967295 - s) (xs.take j) = r at *
   have hh := Cr.half_code r z hbd.1 hbd.2 hzb.1 hzb.2
   obtain ⟨s1, hs1⟩ : ∃ s1, bits .xor .u32 (Cr.tabI (bits .xor .u8 (r % 256) z)) (r / 16) = s1 := ⟨_, rfl⟩
   have hsb := Cr.half_bd r z s1 hbd.1 hbd.2 hzb.1 hzb.2 hs1
   have hcode := Cr.byte_code r z s1 hbd.1 hbd.2 hzb.1 hzb.2 hs1
   have hh2 := (Cr.half_code s1 (z / 16) hsb.1 hsb.2 (by omega) (by omega)).2
   have hh1 := hh.2
   clear hh
   have t1 := Cr.tabI_bd (bits .xor .u8 (r % 256) z)
   go_wp2_with (first
   | (go_at_call 174; refine (table_any _ _ (by omega) (by omega)).mono ?_; rintro e w' ⟨rfl, rfl⟩))
   go_round
   case rel => exact ⟨j + 1, by omega, by go_num, by rw [HT.out, HN.out]⟩
   case measure => simp [intOf]; omega
  ·go_wp2_with fail
   go_ret
   exact ⟨ret_int (by rw [← hfin.out]; congr 2; rw [List.take_of_length_le (by rw [HL.out]; omega)]), rfl⟩
theorem rMore_any (s : Int) (A : Option Addr) (len cap : Nat) (xs : List Int) (B : Nat) (w : World) (h1 : 0 ≤ s) (h2 : s ≤ 4294967295) (hr : RowAt w B A len (xs.map (Value.int .u8))) (hi : Ints .u8 xs) (hl : len ≤ 9223372036854775807) :
  Calls Try.prog 134 #[.int .u32 s, .slice A len cap] w fun e w' => e = .returned (.int .u32 (Cr.more s xs)) ∧ w = w' := by
 have hb : ∀ b ∈ xs, 0 ≤ b ∧ b ≤ 255 := fun b hb => bounds_u8 (hi b hb)
 have HB := Lib.hid hb
 have HI := Lib.hid hi
 have HR := Lib.hid hr
 have hlen : xs.length = len := by simpa using hr.1
 have HL := Lib.hid hlen
 clear hb hi hr hlen
 have hmb := Cr.more_bd s xs h1 h2 HB.out
 go_enter Try.func134, Try.ntmps134
 go_wp2_with fail
 go_loop [5, 6, 7, 8] (fun s' t _u _v => ∃ j : Nat, j ≤ len ∧ t = .int .i64 j ∧ s' = .int .u32 (Cr.run (4294967295 - s) (xs.take j))) (fun _ t _ _ => len - (intOf t).toNat)
 case atStart => exact ⟨0, by omega, rfl, rfl⟩
 case round =>
  obtain ⟨j, hj, rfl, rfl⟩ := hrel
  have hbd := Cr.run_bd (xs.take j) (4294967295 - s) (by omega) (by omega) (fun b hb => HB.out b (List.mem_of_mem_take hb))
  by_cases hlt : j < len
  ·obtain ⟨b, off, z, rfl, hbl, hz, hwz, hc⟩ := HR.out.int HI.out hlt
   have hzb := bounds_u8 hwz
   have HN := Lib.hid (Cr.run_snoc (4294967295 - s) (xs.take j) z)
   have HT := Lib.hid (take_succ_of hz)
   clear hz hwz
   generalize Cr.run (4294967295 - s) (xs.take j) = r at *
   have hx := Cr.xor_byte r z hbd.1 hbd.2 hzb.1 hzb.2
   have HX := Lib.hid hx.2.2
   have hx1 := hx.1
   have hx2 := hx.2.1
   clear hx
   generalize hq : bits .xor .u32 r z = q at *
   go_wp2_with fail
   go_loop [5, 7, 8] (fun s' t _u => ∃ k : Nat, k ≤ 8 ∧ t = .int .i64 k ∧ s' = .int .u32 (Cr.stepI q k)) (fun _ t _ => 8 - (intOf t).toNat)
   case atStart => exact ⟨0, by omega, rfl, by rw [Cr.stepI_zero q hx1]⟩
   case round =>
    obtain ⟨k, hk, rfl, rfl⟩ := hrel
    have hkb := Cr.stepI_bd q k hx1 hx2
    by_cases hlk : k < 8
    ·by_cases ho : Cr.stepI q k % 2 = 1
     ·have HO := Lib.hid (Cr.stepI_odd q k hx1 hx2 ho)
      have ho2 : (Cr.stepI q k % 2 == 1) = true := by simpa using ho
      clear ho
      go_wp2_with fail
      go_round
      case rel => exact ⟨k + 1, by omega, by go_num, by rw [HO.out]⟩
      case measure => simp [intOf]; omega
     ·have HO := Lib.hid (Cr.stepI_even q k hx1 hx2 ho)
      have ho2 : (Cr.stepI q k % 2 == 1) = false := by simpa using ho
      clear ho
      go_wp2_with fail
      go_round
      case rel => exact ⟨k + 1, by omega, by go_num, by rw [HO.out]⟩
      case measure => simp [intOf]; omega
    ·obtain rfl : k = 8 := by omega
     go_wp2_with fail
     go_round
     case rel => exact ⟨j + 1, by omega, by go_num, by rw [HT.out, HN.out, HX.out]⟩
     case measure => simp [intOf]; omega
  ·have hfin : Cr.run (4294967295 - s) (xs.take j) = Cr.run (4294967295 - s) xs := by rw [List.take_of_length_le (by rw [HL.out]; omega)]
   go_wp2_with fail
   go_ret
   exact ⟨ret_int (by unfold Cr.more; omega), rfl⟩
theorem sum_any (A : Option Addr) (len cap : Nat) (xs : List Int) (B : Nat) (w : World) (hr : RowAt w B A len (xs.map (Value.int .u8))) (hi : Ints .u8 xs) (hl : len ≤ 9223372036854775807) :
  Calls Try.prog 170 #[.slice A len cap] w fun e w' => e = .returned (.int .u32 (Cr.more 0 xs)) ∧ w = w' := by
 go_enter Try.func170, Try.ntmps170
 go_wp2_with fail
 refine (more_any 0 A len cap xs B _ (by omega) (by omega) hr hi hl).mono ?_
 rintro e w' ⟨rfl, rfl⟩
 go_wp2_with fail
 go_ret
 exact ⟨rfl, rfl⟩
end Go.Proofs.Ytlakbclnilakbaa
end
