/- Parts of the proof, one behind the other. -/
import Derived.Test.YtmekhdclnhhhbaaKRootsOpense
set_option linter.unusedSimpArgs false
set_option linter.unusedVariables false
section
namespace Go.Proofs.Ytmekhdclnhhhbaa
open Go.RowKit
set_option maxHeartbeats 8000000
set_option maxRecDepth 100000
theorem caps_at (l0 l1 l2 l3 l4 l5 l6 l7 l8 l9 l10 l11 l12 l13 l14 l15 : Int) (k : Nat) (hk : k < 8) : ∃ x, [l0, l1, l2, l3, l4, l5, l6, l7, l8, l9, l10, l11, l12, l13, l14, l15][k / 4 * 8 + 1 + k % 4]? = some x ∧ [(St.cap l1), (St.cap l2), (St.cap l3), (St.cap l4), (St.cap l9), (St.cap l10), (St.cap l11), (St.cap l12)][k]? = some (St.cap x) := by
 rcases (show k = 0 ∨ k = 1 ∨ k = 2 ∨ k = 3 ∨ k = 4 ∨ k = 5 ∨ k = 6 ∨ k = 7 from by omega) with rfl | rfl | rfl | rfl | rfl | rfl | rfl | rfl <;> exact ⟨_, rfl, rfl⟩
theorem u16_all {l0 l1 l2 l3 l4 l5 l6 l7 l8 l9 l10 l11 l12 l13 l14 l15 : Int} (hl0 : U64s l0) (hl1 : U64s l1) (hl2 : U64s l2) (hl3 : U64s l3) (hl4 : U64s l4) (hl5 : U64s l5) (hl6 : U64s l6) (hl7 : U64s l7) (hl8 : U64s l8) (hl9 : U64s l9) (hl10 : U64s l10) (hl11 : U64s l11) (hl12 : U64s l12) (hl13 : U64s l13) (hl14 : U64s l14) (hl15 : U64s l15) : ∀ x ∈ [l0, l1, l2, l3, l4, l5, l6, l7, l8, l9, l10, l11, l12, l13, l14, l15], U64s x := by
 intro x hx
 simp only [List.mem_cons, List.not_mem_nil, or_false] at hx
 rcases hx with rfl | rfl | rfl | rfl | rfl | rfl | rfl | rfl | rfl | rfl | rfl | rfl | rfl | rfl | rfl | rfl
 ·exact hl0
 ·exact hl1
 ·exact hl2
 ·exact hl3
 ·exact hl4
 ·exact hl5
 ·exact hl6
 ·exact hl7
 ·exact hl8
 ·exact hl9
 ·exact hl10
 ·exact hl11
 ·exact hl12
 ·exact hl13
 ·exact hl14
 ·exact hl15
def okD (l0 l1 l2 l3 l4 l5 l6 l8 l9 l10 l11 l12 l13 l14 : Int) : Prop := St.rightB l0 [l1, l2, l3, l4, l9, l10, l11, l12] = true ∧ l5 = 0 ∧ l6 = 0 ∧ l8 = l0 ∧ l13 = 1 ∧ l14 = 0
def IsDec (l0 l1 l2 l3 l4 l5 l6 l8 l9 l10 l11 l12 l13 l14 : Int) (V : Value) (C : Int) : Prop := (okD l0 l1 l2 l3 l4 l5 l6 l8 l9 l10 l11 l12 l13 l14 ∧ V = .agg #[.int .u64 l0, .int .i64 l1, .int .i64 l2, .int .i64 l3, .int .i64 l4, .int .i64 l9, .int .i64 l10, .int .i64 l11, .int .i64 l12] ∧ C = 0) ∨ (¬ okD l0 l1 l2 l3 l4 l5 l6 l8 l9 l10 l11 l12 l13 l14 ∧ V = .agg #[.int .u64 0, .int .i64 0, .int .i64 0, .int .i64 0, .int .i64 0, .int .i64 0, .int .i64 0, .int .i64 0, .int .i64 0] ∧ C = 26)
theorem line16_eq (xs ys : List Int) (hx : xs.length = 16) (hy : ys.length = 16) (W : World) : (Op.equalIn 10000 99 (.agg (xs.map (Value.int .u64)).toArray) (.agg (ys.map (Value.int .u64)).toArray)).run Try.prog W = .ok (eqB xs ys) W := by
 obtain ⟨i0, hi0, _⟩ := info_parts info_u64
 exact run_equalIn_ints W 9998 Try.underlying99 Try.underlying22 hi0 (by kernel_rfl) xs ys hx hy
theorem s25 {Z W : World} {x y : Nat} {T T' : TypeId} {c0 c1 c2 c3 c4 c5 c6 c7 c8 d0 d1 d2 d3 d4 d5 d6 d7 d8 d9 d10 d11 d12 d13 d14 d15 : Value} (X : Blk Z x #[c0, c1, c2, c3, c4, c5, c6, c7, c8] T) (Y : Blk Z y #[d0, d1, d2, d3, d4, d5, d6, d7, d8, d9, d10, d11, d12, d13, d14, d15] T') (h : Below Z.heap.size Z W) :
  W.cell? ⟨x, 0, none⟩ = some c0 ∧ W.cell? ⟨x, 1, none⟩ = some c1 ∧ W.cell? ⟨x, 2, none⟩ = some c2 ∧ W.cell? ⟨x, 3, none⟩ = some c3 ∧ W.cell? ⟨x, 4, none⟩ = some c4 ∧ W.cell? ⟨x, 5, none⟩ = some c5 ∧ W.cell? ⟨x, 6, none⟩ = some c6 ∧ W.cell? ⟨x, 7, none⟩ = some c7 ∧ W.cell? ⟨x, 8, none⟩ = some c8 ∧ W.cell? ⟨y, 0, none⟩ = some d0 ∧ W.cell? ⟨y, 1, none⟩ = some d1 ∧ W.cell? ⟨y, 2, none⟩ = some d2 ∧ W.cell? ⟨y, 3, none⟩ = some d3 ∧ W.cell? ⟨y, 4, none⟩ = some d4 ∧ W.cell? ⟨y, 5, none⟩ = some d5 ∧ W.cell? ⟨y, 6, none⟩ = some d6 ∧ W.cell? ⟨y, 7, none⟩ = some d7 ∧ W.cell? ⟨y, 8, none⟩ = some d8 ∧ W.cell? ⟨y, 9, none⟩ = some d9 ∧ W.cell? ⟨y, 10, none⟩ = some d10 ∧ W.cell? ⟨y, 11, none⟩ = some d11 ∧ W.cell? ⟨y, 12, none⟩ = some d12 ∧ W.cell? ⟨y, 13, none⟩ = some d13 ∧ W.cell? ⟨y, 14, none⟩ = some d14 ∧ W.cell? ⟨y, 15, none⟩ = some d15 ∧ Below Z.heap.size Z W := by
 have X' := X.below h X.lt
 have Y' := Y.below h Y.lt
 exact ⟨X'.cell 0 _ rfl, X'.cell 1 _ rfl, X'.cell 2 _ rfl, X'.cell 3 _ rfl, X'.cell 4 _ rfl, X'.cell 5 _ rfl, X'.cell 6 _ rfl, X'.cell 7 _ rfl, X'.cell 8 _ rfl, Y'.cell 0 _ rfl, Y'.cell 1 _ rfl, Y'.cell 2 _ rfl, Y'.cell 3 _ rfl, Y'.cell 4 _ rfl, Y'.cell 5 _ rfl, Y'.cell 6 _ rfl, Y'.cell 7 _ rfl, Y'.cell 8 _ rfl, Y'.cell 9 _ rfl, Y'.cell 10 _ rfl, Y'.cell 11 _ rfl, Y'.cell 12 _ rfl, Y'.cell 13 _ rfl, Y'.cell 14 _ rfl, Y'.cell 15 _ rfl, h⟩
theorem caps_le (a b c d e f g h : Int) (H : ∀ r ∈ [a, b, c, d, e, f, g, h], 0 ≤ r) (E : Int) (hr : St.rightB E [St.cap a, St.cap b, St.cap c, St.cap d, St.cap e, St.cap f, St.cap g, St.cap h] = true) : ∀ r ∈ [a, b, c, d, e, f, g, h], St.cap r = r ∧ r ≤ 131071 := by
 unfold St.rightB at hr
 simp only [decide_eq_true_eq] at hr
 intro r hm
 have h1 : 0 ≤ St.cap r ∧ St.cap r ≤ 131071 := hr.1 _ (List.mem_map_of_mem (f := St.cap) hm)
 unfold St.cap at *
 split at h1 <;> omega
theorem slDec_both (l0 l1 l2 l3 l4 l5 l6 l8 l9 l10 l11 l12 l13 l14 : Int) (w : World) (hl0 : U64s l0) (hl1 : U64s l1) (hl2 : U64s l2) (hl3 : U64s l3) (hl4 : U64s l4) (hl5 : U64s l5) (hl6 : U64s l6) (hl8 : U64s l8) (hl9 : U64s l9) (hl10 : U64s l10) (hl11 : U64s l11) (hl12 : U64s l12) (hl13 : U64s l13) (hl14 : U64s l14) (V : Value) (C : Int) (hV : IsDec l0 l1 l2 l3 l4 l5 l6 l8 l9 l10 l11 l12 l13 l14 V C) :
  Calls Try.prog 118 #[.agg #[.int .u64 l0, .int .u64 l1, .int .u64 l2, .int .u64 l3, .int .u64 l4, .int .u64 l5, .int .u64 l6, .int .u64 (St.sum7 l0 l1 l2 l3 l4 l5 l6), .int .u64 l8, .int .u64 l9, .int .u64 l10, .int .u64 l11, .int .u64 l12, .int .u64 l13, .int .u64 l14, .int .u64 (St.sum7 l8 l9 l10 l11 l12 l13 l14)]] w fun e w' => e = .returned (.tuple #[V, .int .i64 C]) ∧ Below w.heap.size w w' := by
 replace hV := Lib.hid hV
 have W0 := Lib.hid (u64s_wf l0 l1 l2 l3 l4 l5 l6 hl0 hl1 hl2 hl3 hl4 hl5 hl6)
 have W1 := Lib.hid (u64s_wf l8 l9 l10 l11 l12 l13 l14 hl8 hl9 hl10 hl11 hl12 hl13 hl14)
 have b0 := St.sum7_bd l0 l1 l2 l3 l4 l5 l6
 have b1 := St.sum7_bd l8 l9 l10 l11 l12 l13 l14
 have q0 : IntKind.u64.wrap (St.sum7 l0 l1 l2 l3 l4 l5 l6) = St.sum7 l0 l1 l2 l3 l4 l5 l6 := by rw [IntKind.wrap_u64]; omega
 have q1 : IntKind.u64.wrap (St.sum7 l8 l9 l10 l11 l12 l13 l14) = St.sum7 l8 l9 l10 l11 l12 l13 l14 := by rw [IntKind.wrap_u64]; omega
 have X := Lib.hid ((Blk.new w #[.int .u64 l0, .int .u64 l1, .int .u64 l2, .int .u64 l3, .int .u64 l4, .int .u64 l5, .int .u64 l6, .int .u64 (St.sum7 l0 l1 l2 l3 l4 l5 l6), .int .u64 l8, .int .u64 l9, .int .u64 l10, .int .u64 l11, .int .u64 l12, .int .u64 l13, .int .u64 l14, .int .u64 (St.sum7 l8 l9 l10 l11 l12 l13 l14)] 99).alloc (.cells #[.int .u64 0, .int .i64 0, .int .i64 0, .int .i64 0, .int .i64 0, .int .i64 0, .int .i64 0, .int .i64 0, .int .i64 0] 144))
 have R := Lib.hid (Blk.new1 w (.cells #[.int .u64 l0, .int .u64 l1, .int .u64 l2, .int .u64 l3, .int .u64 l4, .int .u64 l5, .int .u64 l6, .int .u64 (St.sum7 l0 l1 l2 l3 l4 l5 l6), .int .u64 l8, .int .u64 l9, .int .u64 l10, .int .u64 l11, .int .u64 l12, .int .u64 l13, .int .u64 l14, .int .u64 (St.sum7 l8 l9 l10 l11 l12 l13 l14)] 99) #[.int .u64 0, .int .i64 0, .int .i64 0, .int .i64 0, .int .i64 0, .int .i64 0, .int .i64 0, .int .i64 0, .int .i64 0] 144)
 have hB : Below w.heap.size w ((w.alloc (.cells #[.int .u64 l0, .int .u64 l1, .int .u64 l2, .int .u64 l3, .int .u64 l4, .int .u64 l5, .int .u64 l6, .int .u64 (St.sum7 l0 l1 l2 l3 l4 l5 l6), .int .u64 l8, .int .u64 l9, .int .u64 l10, .int .u64 l11, .int .u64 l12, .int .u64 l13, .int .u64 l14, .int .u64 (St.sum7 l8 l9 l10 l11 l12 l13 l14)] 99)).alloc (.cells #[.int .u64 0, .int .i64 0, .int .i64 0, .int .i64 0, .int .i64 0, .int .i64 0, .int .i64 0, .int .i64 0, .int .i64 0] 144)) := ((Below.refl _ _).alloc (Nat.le_refl _) _).alloc (by simp) _
 generalize hZ : ((w.alloc (.cells #[.int .u64 l0, .int .u64 l1, .int .u64 l2, .int .u64 l3, .int .u64 l4, .int .u64 l5, .int .u64 l6, .int .u64 (St.sum7 l0 l1 l2 l3 l4 l5 l6), .int .u64 l8, .int .u64 l9, .int .u64 l10, .int .u64 l11, .int .u64 l12, .int .u64 l13, .int .u64 l14, .int .u64 (St.sum7 l8 l9 l10 l11 l12 l13 l14)] 99)).alloc (.cells #[.int .u64 0, .int .i64 0, .int .i64 0, .int .i64 0, .int .i64 0, .int .i64 0, .int .i64 0, .int .i64 0, .int .i64 0] 144)) = Z at *
 have x7 := X.out.cell 7 _ rfl
 go_enter Try.func118, Try.ntmps118
 go_wp2_with fail
 refine wp_loop_rounds 3 ?_
 rw [rounds_succ]
 go_wp2_with fail
 go_region_held3 (fun W => W.cell? ⟨w.heap.size, 7, none⟩ = some (.int .u64 (St.sum7 l0 l1 l2 l3 l4 l5 l6)) ∧ Below Z.heap.size Z W)
  (first | assumption | exact ⟨x7, (Below.refl _ _).drew⟩)
  (first
   | (go_at_call 82; refine (crcWords_any _ 7 _ [l0, l1, l2, l3, l4, l5, l6] _ _ ((RowAt.of_blk_at X.out 0 7 (by simp)).below (by assumption : _ ∧ Below _ _ _).2) W0.out (by omega) (by assumption : _ ∧ Below _ _ _).2.size).mono ?_; rintro e w5 ⟨rfl, hb5⟩; rw [show Cr.more 0 (By.bytes [l0, l1, l2, l3, l4, l5, l6]) = St.sum7 l0 l1 l2 l3 l4 l5 l6 from rfl]; have hS := (by assumption : _ ∧ Below _ _ _); have hS' := And.intro ((hb5.cell (cell_lt hS.1)).trans hS.1) (hS.2.trans (hb5.mono hS.2.size))))
 have hSw5 := (by assumption : _ ∧ Below Z.heap.size Z _)
 have Xw5 := X.out.below hSw5.2 X.out.lt
 have Rw5 := R.out.below hSw5.2 R.out.lt
 have Bw5 := hB.trans (hSw5.2.mono hB.size)
 have x15 := Xw5.cell 15 _ rfl
 go_wp2_with fail
 rw [rounds_succ]
 go_wp2_with fail
 go_region_held3 (fun W => W.cell? ⟨w.heap.size, 15, none⟩ = some (.int .u64 (St.sum7 l8 l9 l10 l11 l12 l13 l14)) ∧ Below w5.heap.size w5 W)
  (first | assumption | exact ⟨x15, (Below.refl _ _).drew⟩)
  (first
   | (go_at_call 82; refine (crcWords_any _ 7 _ [l8, l9, l10, l11, l12, l13, l14] _ _ ((RowAt.of_blk_at Xw5 8 7 (by simp)).below (by assumption : _ ∧ Below _ _ _).2) W1.out (by omega) (by assumption : _ ∧ Below _ _ _).2.size).mono ?_; rintro e w6 ⟨rfl, hb5⟩; rw [show Cr.more 0 (By.bytes [l8, l9, l10, l11, l12, l13, l14]) = St.sum7 l8 l9 l10 l11 l12 l13 l14 from rfl]; have hS := (by assumption : _ ∧ Below _ _ _); have hS' := And.intro ((hb5.cell (cell_lt hS.1)).trans hS.1) (hS.2.trans (hb5.mono hS.2.size))))
 have hSw6 := (by assumption : _ ∧ Below w5.heap.size w5 _)
 have Xw6 := Xw5.below hSw6.2 Xw5.lt
 have Rw6 := Rw5.below hSw6.2 Rw5.lt
 have Bw6 := Bw5.trans (hSw6.2.mono Bw5.size)
 have x0 := Xw6.cell 0 _ rfl
 go_wp2_with fail
 rw [rounds_succ]
 go_wp2_with fail
 have S6 := Blk.new w6 #[.int .u64 l0, .int .i64 0, .int .i64 0, .int .i64 0, .int .i64 0, .int .i64 0, .int .i64 0, .int .i64 0, .int .i64 0] 144
 have X6 := Xw6.alloc (.cells #[.int .u64 l0, .int .i64 0, .int .i64 0, .int .i64 0, .int .i64 0, .int .i64 0, .int .i64 0, .int .i64 0, .int .i64 0] 144)
 have R6 := Rw6.alloc (.cells #[.int .u64 l0, .int .i64 0, .int .i64 0, .int .i64 0, .int .i64 0, .int .i64 0, .int .i64 0, .int .i64 0, .int .i64 0] 144)
 have B6 := Bw6.alloc Bw6.size (.cells #[.int .u64 l0, .int .i64 0, .int .i64 0, .int .i64 0, .int .i64 0, .int .i64 0, .int .i64 0, .int .i64 0, .int .i64 0] 144)
 have hz6 : w.heap.size + 1 < w6.heap.size := Rw6.lt
 have S6' : Blk (w6.alloc (.cells #[.int .u64 l0, .int .i64 0, .int .i64 0, .int .i64 0, .int .i64 0, .int .i64 0, .int .i64 0, .int .i64 0, .int .i64 0] 144)) w6.heap.size (Value.int .u64 l0 :: (([(St.cap l1), (St.cap l2), (St.cap l3), (St.cap l4), (St.cap l9), (St.cap l10), (St.cap l11), (St.cap l12)].take 0) ++ List.replicate (8 - 0) 0).map (Value.int .i64)).toArray 144 := S6
 have HCAP := Lib.hid (caps_at (l0) (l1) (l2) (l3) (l4) (l5) (l6) ((St.sum7 l0 l1 l2 l3 l4 l5 l6)) (l8) (l9) (l10) (l11) (l12) (l13) (l14) ((St.sum7 l8 l9 l10 l11 l12 l13 l14)))
 have HU := u16_all hl0 hl1 hl2 hl3 hl4 hl5 hl6 (⟨by omega, by omega⟩ : U64s (St.sum7 l0 l1 l2 l3 l4 l5 l6)) hl8 hl9 hl10 hl11 hl12 hl13 hl14 (⟨by omega, by omega⟩ : U64s (St.sum7 l8 l9 l10 l11 l12 l13 l14))
 replace HU := Lib.hid HU
 clear x0 S6
 go_loopw [7, 30] (fun _i t wr => ∃ k : Nat, k ≤ 8 ∧ t = .int .i64 k ∧ Blk wr w6.heap.size (Value.int .u64 l0 :: (([(St.cap l1), (St.cap l2), (St.cap l3), (St.cap l4), (St.cap l9), (St.cap l10), (St.cap l11), (St.cap l12)].take k) ++ List.replicate (8 - k) 0).map (Value.int .i64)).toArray 144 ∧ Blk wr w.heap.size #[.int .u64 l0, .int .u64 l1, .int .u64 l2, .int .u64 l3, .int .u64 l4, .int .u64 l5, .int .u64 l6, .int .u64 (St.sum7 l0 l1 l2 l3 l4 l5 l6), .int .u64 l8, .int .u64 l9, .int .u64 l10, .int .u64 l11, .int .u64 l12, .int .u64 l13, .int .u64 l14, .int .u64 (St.sum7 l8 l9 l10 l11 l12 l13 l14)] 99 ∧ Blk wr (w.heap.size + 1) #[.int .u64 0, .int .i64 0, .int .i64 0, .int .i64 0, .int .i64 0, .int .i64 0, .int .i64 0, .int .i64 0, .int .i64 0] 144 ∧ Below w.heap.size w wr) (fun _ t _ => 8 - (intOf t).toNat)
 case atStart => exact ⟨0, by omega, rfl, S6', X6, R6, B6⟩
 case round =>
  clear S6' X6 R6 B6
  obtain ⟨k, hk, rfl, Sk, Xk, Rk, Bk⟩ := hrel
  by_cases hlt : k < 8
  ·obtain ⟨x, hx, hcx⟩ := HCAP.out k hlt
   have hux := HU.out x (List.mem_of_getElem? hx)
   unfold U64s at hux
   have hxc := Xk.cell (k / 4 * 8 + 1 + k % 4) (.int .u64 x) (by rw [show (#[.int .u64 l0, .int .u64 l1, .int .u64 l2, .int .u64 l3, .int .u64 l4, .int .u64 l5, .int .u64 l6, .int .u64 (St.sum7 l0 l1 l2 l3 l4 l5 l6), .int .u64 l8, .int .u64 l9, .int .u64 l10, .int .u64 l11, .int .u64 l12, .int .u64 l13, .int .u64 l14, .int .u64 (St.sum7 l8 l9 l10 l11 l12 l13 l14)] : Array Value) = ([l0, l1, l2, l3, l4, l5, l6, (St.sum7 l0 l1 l2 l3 l4 l5 l6), l8, l9, l10, l11, l12, l13, l14, (St.sum7 l8 l9 l10 l11 l12 l13 l14)].map (Value.int .u64)).toArray from rfl, List.getElem?_toArray, List.getElem?_map, hx]; rfl)
   clear hx
   have hlen : ([(St.cap l1), (St.cap l2), (St.cap l3), (St.cap l4), (St.cap l9), (St.cap l10), (St.cap l11), (St.cap l12)].take k).length = k := by rw [List.length_take]; show min k 8 = k; omega
   have hset := Sk.set (1 + k) (.int .i64 (St.cap x))
   rw [List.setIfInBounds_toArray, show 1 + k = k + 1 from by omega, List.set_cons_succ, ← List.map_set, Xp.set_fill _ 0 (St.cap x) 8 k hlen hlt, ← take_succ_of hcx] at hset
   have N1 := Lib.hid hset
   have hsc := Sk.cell (1 + k) (.int .i64 0) (by rw [show 1 + k = k + 1 from by omega, List.getElem?_toArray, List.getElem?_cons_succ, List.getElem?_map, Xp.fill_get _ _ 8 k hlen hlt]; rfl)
   have hsf := Sk.frozen (1 + k)
   have N2 := Lib.hid (Xk.other ⟨w6.heap.size, 1 + k, none⟩ (.int .i64 (St.cap x)) (by simp; omega))
   have N3 := Lib.hid (Rk.other ⟨w6.heap.size, 1 + k, none⟩ (.int .i64 (St.cap x)) (by simp; omega))
   have N4 := Lib.hid (Bk.setCell (p := ⟨w6.heap.size, 1 + k, none⟩) (by simp; omega) (.int .i64 (St.cap x)))
   have HC := Lib.hid (show (if 1099511627776 < x then 1099511627776 else x) = St.cap x by unfold St.cap; split <;> split <;> omega)
   clear hset hlen hcx
   go_wp2_with fail
   go_roundw
   case rel => exact ⟨k + 1, by omega, by go_num, by rw [HC.out]; rw [Nat.add_comm 1 k]; exact N1.out, by rw [HC.out]; exact N2.out, by rw [HC.out]; exact N3.out, by rw [HC.out]; exact N4.out⟩
   case measure => simp [intOf] <;> omega
  ·obtain rfl : k = 8 := by omega
   have S8 : Blk wr w6.heap.size #[.int .u64 l0, .int .i64 (St.cap l1), .int .i64 (St.cap l2), .int .i64 (St.cap l3), .int .i64 (St.cap l4), .int .i64 (St.cap l9), .int .i64 (St.cap l10), .int .i64 (St.cap l11), .int .i64 (St.cap l12)] 144 := Sk
   clear Sk
   have hcapI : ∀ r ∈ [(St.cap l1), (St.cap l2), (St.cap l3), (St.cap l4), (St.cap l9), (St.cap l10), (St.cap l11), (St.cap l12)], I64 r := by
    intro r hr
    simp only [List.mem_cons, List.not_mem_nil, or_false] at hr
    have hcb : ∀ x : Int, 0 ≤ x → I64 (St.cap x) := fun x hx => by unfold I64 St.cap; split <;> omega
    rcases hr with rfl | rfl | rfl | rfl | rfl | rfl | rfl | rfl
    ·exact hcb _ hl1.1
    ·exact hcb _ hl2.1
    ·exact hcb _ hl3.1
    ·exact hcb _ hl4.1
    ·exact hcb _ hl9.1
    ·exact hcb _ hl10.1
    ·exact hcb _ hl11.1
    ·exact hcb _ hl12.1
   replace hcapI := Lib.hid hcapI
   cases hrb : St.rightB l0 [(St.cap l1), (St.cap l2), (St.cap l3), (St.cap l4), (St.cap l9), (St.cap l10), (St.cap l11), (St.cap l12)] with
   | false =>
    have hno : ¬ okD l0 l1 l2 l3 l4 l5 l6 l8 l9 l10 l11 l12 l13 l14 := by
     rintro ⟨h, _⟩
     have e : [(St.cap l1), (St.cap l2), (St.cap l3), (St.cap l4), (St.cap l9), (St.cap l10), (St.cap l11), (St.cap l12)] = [l1, l2, l3, l4, l9, l10, l11, l12] := by
      have q : ∀ r ∈ [l1, l2, l3, l4, l9, l10, l11, l12], St.cap r = r := by
       unfold St.rightB at h
       simp only [decide_eq_true_eq] at h
       intro r hr
       have := h.1 r hr
       exact St.cap_in r (by omega)
      simp only [List.mem_cons, List.not_mem_nil, or_false, forall_eq_or_imp, forall_eq] at q
      rw [q.1, q.2.1, q.2.2.1, q.2.2.2.1, q.2.2.2.2.1, q.2.2.2.2.2.1, q.2.2.2.2.2.2.1, q.2.2.2.2.2.2.2]
     rw [e] at hrb
     rw [h] at hrb
     cases hrb
    rcases hV.out with ⟨h, _, _⟩ | ⟨_, rfl, rfl⟩
    ·exact absurd h hno
    clear hno hV
    have s25' := s25 S8 Xk (Below.refl _ _).drew
    go_wp2_with fail
    refine wp_region_held_drew (S := fun W => W.cell? ⟨w6.heap.size, 0, none⟩ = some (.int .u64 l0) ∧ W.cell? ⟨w6.heap.size, 1, none⟩ = some (.int .i64 (St.cap l1)) ∧ W.cell? ⟨w6.heap.size, 2, none⟩ = some (.int .i64 (St.cap l2)) ∧ W.cell? ⟨w6.heap.size, 3, none⟩ = some (.int .i64 (St.cap l3)) ∧ W.cell? ⟨w6.heap.size, 4, none⟩ = some (.int .i64 (St.cap l4)) ∧ W.cell? ⟨w6.heap.size, 5, none⟩ = some (.int .i64 (St.cap l9)) ∧ W.cell? ⟨w6.heap.size, 6, none⟩ = some (.int .i64 (St.cap l10)) ∧ W.cell? ⟨w6.heap.size, 7, none⟩ = some (.int .i64 (St.cap l11)) ∧ W.cell? ⟨w6.heap.size, 8, none⟩ = some (.int .i64 (St.cap l12)) ∧ W.cell? ⟨w.heap.size, 0, none⟩ = some (.int .u64 l0) ∧ W.cell? ⟨w.heap.size, 1, none⟩ = some (.int .u64 l1) ∧ W.cell? ⟨w.heap.size, 2, none⟩ = some (.int .u64 l2) ∧ W.cell? ⟨w.heap.size, 3, none⟩ = some (.int .u64 l3) ∧ W.cell? ⟨w.heap.size, 4, none⟩ = some (.int .u64 l4) ∧ W.cell? ⟨w.heap.size, 5, none⟩ = some (.int .u64 l5) ∧ W.cell? ⟨w.heap.size, 6, none⟩ = some (.int .u64 l6) ∧ W.cell? ⟨w.heap.size, 7, none⟩ = some (.int .u64 (St.sum7 l0 l1 l2 l3 l4 l5 l6)) ∧ W.cell? ⟨w.heap.size, 8, none⟩ = some (.int .u64 l8) ∧ W.cell? ⟨w.heap.size, 9, none⟩ = some (.int .u64 l9) ∧ W.cell? ⟨w.heap.size, 10, none⟩ = some (.int .u64 l10) ∧ W.cell? ⟨w.heap.size, 11, none⟩ = some (.int .u64 l11) ∧ W.cell? ⟨w.heap.size, 12, none⟩ = some (.int .u64 l12) ∧ W.cell? ⟨w.heap.size, 13, none⟩ = some (.int .u64 l13) ∧ W.cell? ⟨w.heap.size, 14, none⟩ = some (.int .u64 l14) ∧ W.cell? ⟨w.heap.size, 15, none⟩ = some (.int .u64 (St.sum7 l8 l9 l10 l11 l12 l13 l14)) ∧ Below wr.heap.size wr W) (by kernel_rfl) ?_ (fun hHeld => ?_)
    ·(try dsimp only)
     (first | assumption | exact s25')
    first | (refine wpAnyH_take (i := 0) (v := ?_) rfl (by kernel_rfl) (by kernel_rfl) (by kernel_rfl) (fun _ _ _ h => h) (Or.inl ⟨by rfl, ?_⟩) (by assumption) ?_; rotate_left; (focus (intro w hSw; (try dsimp only at hSw); go_simp; first | done | with_reducible rfl))) | (refine wpAnyH_take (i := 0) rfl (by kernel_rfl) (by kernel_rfl) (by kernel_rfl) (fun _ _ _ h => h) (Or.inr ⟨by rfl, rfl⟩) (by assumption) ?_) | fail
    try simp only [Act.put, List.getElem_toArray, List.getElem_cons_zero, List.getElem_cons_succ, List.setIfInBounds_toArray, List.set_cons_zero, List.set_cons_succ]
    refine wpAnyH_ready (rs := [1]) (by kernel_rfl) (by simp) (AllReadyH.cons rfl (fun K hK => ?_) AllReadyH.nil)
    (try go_simp)
    have hS := (by assumption : _ ∧ _ ∧ _ ∧ _ ∧ _ ∧ _ ∧ _ ∧ _ ∧ _ ∧ _ ∧ _ ∧ _ ∧ _ ∧ _ ∧ _ ∧ _ ∧ _ ∧ _ ∧ _ ∧ _ ∧ _ ∧ _ ∧ _ ∧ _ ∧ _ ∧ Below _ _ _).2.2.2.2.2.2.2.2.2.2.2.2.2.2.2.2.2.2.2.2.2.2.2.2.2
    refine (slRight_any _ _ _ _ _ _ _ _ _ _ hl0 hcapI.out).mono ?_
    rintro e w7 ⟨rfl, hb7⟩
    have hb7' := hS.trans (hb7.mono hS.size)
    have hS' := s25 S8 Xk hb7'
    clear hb7 hS
    refine hK.out _ _ ?_ (fun hHeld => ?_)
    ·(try dsimp only)
     (first | assumption | exact s25')
    clear hK K
    try simp only [Act.put, List.getElem_toArray, List.getElem_cons_zero, List.getElem_cons_succ, List.setIfInBounds_toArray, List.set_cons_zero, List.set_cons_succ]
    first | (refine wpAnyH_take (i := 2) (v := ?_) rfl (by kernel_rfl) (by kernel_rfl) (by kernel_rfl) (fun _ _ _ h => h) (Or.inl ⟨by rfl, ?_⟩) (by assumption) ?_; rotate_left; (focus (intro w hSw; (try dsimp only at hSw); go_simp; first | done | with_reducible rfl))) | (refine wpAnyH_take (i := 2) rfl (by kernel_rfl) (by kernel_rfl) (by kernel_rfl) (fun _ _ _ h => h) (Or.inr ⟨by rfl, rfl⟩) (by assumption) ?_) | fail
    try simp only [Act.put, List.getElem_toArray, List.getElem_cons_zero, List.getElem_cons_succ, List.setIfInBounds_toArray, List.set_cons_zero, List.set_cons_succ]
    first | (refine wpAnyH_take (i := 3) (v := ?_) rfl (by kernel_rfl) (by kernel_rfl) (by kernel_rfl) (fun _ _ _ h => h) (Or.inl ⟨by rfl, ?_⟩) (by assumption) ?_; rotate_left; (focus (intro w hSw; (try dsimp only at hSw); go_simp; first | done | with_reducible rfl))) | (refine wpAnyH_take (i := 3) rfl (by kernel_rfl) (by kernel_rfl) (by kernel_rfl) (fun _ _ _ h => h) (Or.inr ⟨by rfl, rfl⟩) (by assumption) ?_) | fail
    try simp only [Act.put, List.getElem_toArray, List.getElem_cons_zero, List.getElem_cons_succ, List.setIfInBounds_toArray, List.set_cons_zero, List.set_cons_succ]
    first | (refine wpAnyH_take (i := 4) rfl (by kernel_rfl) (by kernel_rfl) (by kernel_rfl) (fun _ _ _ h => h) (Or.inr ⟨by rfl, rfl⟩) (by assumption) ?_) | (refine wpAnyH_take (i := 4) (v := ?_) rfl (by kernel_rfl) (by kernel_rfl) (by kernel_rfl) (fun _ _ _ h => h) (Or.inl ⟨by rfl, ?_⟩) (by assumption) ?_; rotate_left; (focus (intro w hSw; (try dsimp only at hSw); go_simp; first | done | with_reducible rfl))) | fail
    try simp only [Act.put, List.getElem_toArray, List.getElem_cons_zero, List.getElem_cons_succ, List.setIfInBounds_toArray, List.set_cons_zero, List.set_cons_succ]
    first | (refine wpAnyH_take (i := 5) rfl (by kernel_rfl) (by kernel_rfl) (by kernel_rfl) (fun _ _ _ h => h) (Or.inr ⟨by rfl, rfl⟩) (by assumption) ?_) | (refine wpAnyH_take (i := 5) (v := ?_) rfl (by kernel_rfl) (by kernel_rfl) (by kernel_rfl) (fun _ _ _ h => h) (Or.inl ⟨by rfl, ?_⟩) (by assumption) ?_; rotate_left; (focus (intro w hSw; (try dsimp only at hSw); go_simp; first | done | with_reducible rfl))) | fail
    try simp only [Act.put, List.getElem_toArray, List.getElem_cons_zero, List.getElem_cons_succ, List.setIfInBounds_toArray, List.set_cons_zero, List.set_cons_succ]
    first | (refine wpAnyH_take (i := 6) rfl (by kernel_rfl) (by kernel_rfl) (by kernel_rfl) (fun _ _ _ h => h) (Or.inr ⟨by rfl, rfl⟩) (by assumption) ?_) | (refine wpAnyH_take (i := 6) (v := ?_) rfl (by kernel_rfl) (by kernel_rfl) (by kernel_rfl) (fun _ _ _ h => h) (Or.inl ⟨by rfl, ?_⟩) (by assumption) ?_; rotate_left; (focus (intro w hSw; (try dsimp only at hSw); go_simp; first | done | with_reducible rfl))) | fail
    try simp only [Act.put, List.getElem_toArray, List.getElem_cons_zero, List.getElem_cons_succ, List.setIfInBounds_toArray, List.set_cons_zero, List.set_cons_succ]
    first | (refine wpAnyH_take (i := 7) rfl (by kernel_rfl) (by kernel_rfl) (by kernel_rfl) (fun _ _ _ h => h) (Or.inr ⟨by rfl, rfl⟩) (by assumption) ?_) | (refine wpAnyH_take (i := 7) (v := ?_) rfl (by kernel_rfl) (by kernel_rfl) (by kernel_rfl) (fun _ _ _ h => h) (Or.inl ⟨by rfl, ?_⟩) (by assumption) ?_; rotate_left; (focus (intro w hSw; (try dsimp only at hSw); go_simp; first | done | with_reducible rfl))) | fail
    try simp only [Act.put, List.getElem_toArray, List.getElem_cons_zero, List.getElem_cons_succ, List.setIfInBounds_toArray, List.set_cons_zero, List.set_cons_succ]
    first | (refine wpAnyH_take (i := 8) (v := ?_) rfl (by kernel_rfl) (by kernel_rfl) (by kernel_rfl) (fun _ _ _ h => h) (Or.inl ⟨by rfl, ?_⟩) (by assumption) ?_; rotate_left; (focus (intro w hSw; (try dsimp only at hSw); go_simp; first | done | with_reducible rfl))) | (refine wpAnyH_take (i := 8) rfl (by kernel_rfl) (by kernel_rfl) (by kernel_rfl) (fun _ _ _ h => h) (Or.inr ⟨by rfl, rfl⟩) (by assumption) ?_) | fail
    try simp only [Act.put, List.getElem_toArray, List.getElem_cons_zero, List.getElem_cons_succ, List.setIfInBounds_toArray, List.set_cons_zero, List.set_cons_succ]
    refine wpAnyH_done (by kernel_rfl) ?_ _
    have hbE := (by assumption : _ ∧ _ ∧ _ ∧ _ ∧ _ ∧ _ ∧ _ ∧ _ ∧ _ ∧ _ ∧ _ ∧ _ ∧ _ ∧ _ ∧ _ ∧ _ ∧ _ ∧ _ ∧ _ ∧ _ ∧ _ ∧ _ ∧ _ ∧ _ ∧ _ ∧ Below _ _ _).2.2.2.2.2.2.2.2.2.2.2.2.2.2.2.2.2.2.2.2.2.2.2.2.2
    have RE := Rk.below hbE Rk.lt
    have SE := S8.below hbE S8.lt
    have BE := Bk.trans (hbE.mono Bk.size)
    have r0 := RE.cell 0 _ rfl
    have r1 := RE.cell 1 _ rfl
    have r2 := RE.cell 2 _ rfl
    have r3 := RE.cell 3 _ rfl
    have r4 := RE.cell 4 _ rfl
    have r5 := RE.cell 5 _ rfl
    have r6 := RE.cell 6 _ rfl
    have r7 := RE.cell 7 _ rfl
    have r8 := RE.cell 8 _ rfl
    have f0 := RE.frozen 0
    have f1 := RE.frozen 1
    have f2 := RE.frozen 2
    have f3 := RE.frozen 3
    have f4 := RE.frozen 4
    have f5 := RE.frozen 5
    have f6 := RE.frozen 6
    have f7 := RE.frozen 7
    have f8 := RE.frozen 8
    go_wp2_with fail
    exact bodyPost_ret (v := .tuple #[.agg #[.int .u64 0, .int .i64 0, .int .i64 0, .int .i64 0, .int .i64 0, .int .i64 0, .int .i64 0, .int .i64 0, .int .i64 0], .int .i64 26]) (by simp [results, go_sem, Try.results118, r0, r1, r2, r3, r4, r5, r6, r7, r8]) rfl ⟨rfl, (((((((((BE).setCell (by simp) _).setCell (by simp) _).setCell (by simp) _).setCell (by simp) _).setCell (by simp) _).setCell (by simp) _).setCell (by simp) _).setCell (by simp) _).setCell (by simp) _⟩
   | true =>
    have hq := caps_le l1 l2 l3 l4 l9 l10 l11 l12 (by
     intro r hr
     simp only [List.mem_cons, List.not_mem_nil, or_false] at hr
     rcases hr with rfl | rfl | rfl | rfl | rfl | rfl | rfl | rfl
     ·exact hl1.1
     ·exact hl2.1
     ·exact hl3.1
     ·exact hl4.1
     ·exact hl9.1
     ·exact hl10.1
     ·exact hl11.1
     ·exact hl12.1) l0 hrb
    simp only [List.mem_cons, List.not_mem_nil, or_false, forall_eq_or_imp, forall_eq] at hq
    obtain ⟨⟨e0, g0⟩, ⟨e1, g1⟩, ⟨e2, g2⟩, ⟨e3, g3⟩, ⟨e4, g4⟩, ⟨e5, g5⟩, ⟨e6, g6⟩, ⟨e7, g7⟩⟩ := hq
    rw [e0, e1, e2, e3, e4, e5, e6, e7] at S8 hrb hcapI
    clear e0 e1 e2 e3 e4 e5 e6 e7
    have hE0 : 0 < l0 := by
     unfold St.rightB at hrb
     simp only [decide_eq_true_eq] at hrb
     exact hrb.2
    have HRB := Lib.hid hrb
    cases hec : eqB [l0, l1, l2, l3, l4, 0, 0, (St.sum0 l0 l1 l2 l3 l4), l0, l9, l10, l11, l12, 1, 0, (St.sum1 l0 l9 l10 l11 l12)] [l0, l1, l2, l3, l4, l5, l6, (St.sum7 l0 l1 l2 l3 l4 l5 l6), l8, l9, l10, l11, l12, l13, l14, (St.sum7 l8 l9 l10 l11 l12 l13 l14)] with
    | false =>
     have hno : ¬ okD l0 l1 l2 l3 l4 l5 l6 l8 l9 l10 l11 l12 l13 l14 := by
      rintro ⟨_, rfl, rfl, rfl, rfl, rfl⟩
      have := eqB_yes [l8, l1, l2, l3, l4, 0, 0, (St.sum0 l8 l1 l2 l3 l4), l8, l9, l10, l11, l12, 1, 0, (St.sum1 l8 l9 l10 l11 l12)] [l8, l1, l2, l3, l4, 0, 0, (St.sum7 l8 l1 l2 l3 l4 0 0), l8, l9, l10, l11, l12, 1, 0, (St.sum7 l8 l9 l10 l11 l12 1 0)] rfl
      rw [this] at hec
      cases hec
     rcases hV.out with ⟨h, _, _⟩ | ⟨_, rfl, rfl⟩
     ·exact absurd h hno
     clear hno hV
     have heq := line16_eq [l0, l1, l2, l3, l4, 0, 0, (St.sum0 l0 l1 l2 l3 l4), l0, l9, l10, l11, l12, 1, 0, (St.sum1 l0 l9 l10 l11 l12)] [l0, l1, l2, l3, l4, l5, l6, (St.sum7 l0 l1 l2 l3 l4 l5 l6), l8, l9, l10, l11, l12, l13, l14, (St.sum7 l8 l9 l10 l11 l12 l13 l14)] rfl rfl
     rw [hec] at heq
     simp only [List.map_cons, List.map_nil] at heq
     clear hec
     have s25' := s25 S8 Xk (Below.refl _ _).drew
     go_wp2_with fail
     refine wp_region_held_drew (S := fun W => W.cell? ⟨w6.heap.size, 0, none⟩ = some (.int .u64 l0) ∧ W.cell? ⟨w6.heap.size, 1, none⟩ = some (.int .i64 l1) ∧ W.cell? ⟨w6.heap.size, 2, none⟩ = some (.int .i64 l2) ∧ W.cell? ⟨w6.heap.size, 3, none⟩ = some (.int .i64 l3) ∧ W.cell? ⟨w6.heap.size, 4, none⟩ = some (.int .i64 l4) ∧ W.cell? ⟨w6.heap.size, 5, none⟩ = some (.int .i64 l9) ∧ W.cell? ⟨w6.heap.size, 6, none⟩ = some (.int .i64 l10) ∧ W.cell? ⟨w6.heap.size, 7, none⟩ = some (.int .i64 l11) ∧ W.cell? ⟨w6.heap.size, 8, none⟩ = some (.int .i64 l12) ∧ W.cell? ⟨w.heap.size, 0, none⟩ = some (.int .u64 l0) ∧ W.cell? ⟨w.heap.size, 1, none⟩ = some (.int .u64 l1) ∧ W.cell? ⟨w.heap.size, 2, none⟩ = some (.int .u64 l2) ∧ W.cell? ⟨w.heap.size, 3, none⟩ = some (.int .u64 l3) ∧ W.cell? ⟨w.heap.size, 4, none⟩ = some (.int .u64 l4) ∧ W.cell? ⟨w.heap.size, 5, none⟩ = some (.int .u64 l5) ∧ W.cell? ⟨w.heap.size, 6, none⟩ = some (.int .u64 l6) ∧ W.cell? ⟨w.heap.size, 7, none⟩ = some (.int .u64 (St.sum7 l0 l1 l2 l3 l4 l5 l6)) ∧ W.cell? ⟨w.heap.size, 8, none⟩ = some (.int .u64 l8) ∧ W.cell? ⟨w.heap.size, 9, none⟩ = some (.int .u64 l9) ∧ W.cell? ⟨w.heap.size, 10, none⟩ = some (.int .u64 l10) ∧ W.cell? ⟨w.heap.size, 11, none⟩ = some (.int .u64 l11) ∧ W.cell? ⟨w.heap.size, 12, none⟩ = some (.int .u64 l12) ∧ W.cell? ⟨w.heap.size, 13, none⟩ = some (.int .u64 l13) ∧ W.cell? ⟨w.heap.size, 14, none⟩ = some (.int .u64 l14) ∧ W.cell? ⟨w.heap.size, 15, none⟩ = some (.int .u64 (St.sum7 l8 l9 l10 l11 l12 l13 l14)) ∧ Below wr.heap.size wr W) (by kernel_rfl) ?_ (fun hHeld => ?_)
     ·(try dsimp only)
      (first | assumption | exact s25')
     first | (refine wpAnyH_take (i := 0) (v := ?_) rfl (by kernel_rfl) (by kernel_rfl) (by kernel_rfl) (fun _ _ _ h => h) (Or.inl ⟨by rfl, ?_⟩) (by assumption) ?_; rotate_left; (focus (intro w hSw; (try dsimp only at hSw); go_simp; first | done | with_reducible rfl))) | (refine wpAnyH_take (i := 0) rfl (by kernel_rfl) (by kernel_rfl) (by kernel_rfl) (fun _ _ _ h => h) (Or.inr ⟨by rfl, rfl⟩) (by assumption) ?_) | fail
     try simp only [Act.put, List.getElem_toArray, List.getElem_cons_zero, List.getElem_cons_succ, List.setIfInBounds_toArray, List.set_cons_zero, List.set_cons_succ]
     refine wpAnyH_ready (rs := [1]) (by kernel_rfl) (by simp) (AllReadyH.cons rfl (fun K hK => ?_) AllReadyH.nil)
     (try go_simp)
     have hS := (by assumption : _ ∧ _ ∧ _ ∧ _ ∧ _ ∧ _ ∧ _ ∧ _ ∧ _ ∧ _ ∧ _ ∧ _ ∧ _ ∧ _ ∧ _ ∧ _ ∧ _ ∧ _ ∧ _ ∧ _ ∧ _ ∧ _ ∧ _ ∧ _ ∧ _ ∧ Below _ _ _).2.2.2.2.2.2.2.2.2.2.2.2.2.2.2.2.2.2.2.2.2.2.2.2.2
     refine (slRight_any _ _ _ _ _ _ _ _ _ _ hl0 hcapI.out).mono ?_
     rintro e w7 ⟨rfl, hb7⟩
     have hb7' := hS.trans (hb7.mono hS.size)
     have hS' := s25 S8 Xk hb7'
     clear hb7 hS
     refine hK.out _ _ ?_ (fun hHeld => ?_)
     ·(try dsimp only)
      (first | assumption | exact s25')
     clear hK K
     try simp only [Act.put, List.getElem_toArray, List.getElem_cons_zero, List.getElem_cons_succ, List.setIfInBounds_toArray, List.set_cons_zero, List.set_cons_succ]
     first | (refine wpAnyH_take (i := 2) (v := ?_) rfl (by kernel_rfl) (by kernel_rfl) (by kernel_rfl) (fun _ _ _ h => h) (Or.inl ⟨by rfl, ?_⟩) (by assumption) ?_; rotate_left; (focus (intro w hSw; (try dsimp only at hSw); go_simp; first | done | with_reducible rfl))) | (refine wpAnyH_take (i := 2) rfl (by kernel_rfl) (by kernel_rfl) (by kernel_rfl) (fun _ _ _ h => h) (Or.inr ⟨by rfl, rfl⟩) (by assumption) ?_) | fail
     try simp only [Act.put, List.getElem_toArray, List.getElem_cons_zero, List.getElem_cons_succ, List.setIfInBounds_toArray, List.set_cons_zero, List.set_cons_succ]
     first | (refine wpAnyH_take (i := 3) (v := ?_) rfl (by kernel_rfl) (by kernel_rfl) (by kernel_rfl) (fun _ _ _ h => h) (Or.inl ⟨by rfl, ?_⟩) (by assumption) ?_; rotate_left; (focus (intro w hSw; (try dsimp only at hSw); go_simp; first | done | with_reducible rfl))) | (refine wpAnyH_take (i := 3) rfl (by kernel_rfl) (by kernel_rfl) (by kernel_rfl) (fun _ _ _ h => h) (Or.inr ⟨by rfl, rfl⟩) (by assumption) ?_) | fail
     try simp only [Act.put, List.getElem_toArray, List.getElem_cons_zero, List.getElem_cons_succ, List.setIfInBounds_toArray, List.set_cons_zero, List.set_cons_succ]
     first | (refine wpAnyH_take (i := 4) (v := ?_) rfl (by kernel_rfl) (by kernel_rfl) (by kernel_rfl) (fun _ _ _ h => h) (Or.inl ⟨by rfl, ?_⟩) (by assumption) ?_; rotate_left; (focus (intro w hSw; (try dsimp only at hSw); go_simp; first | done | with_reducible rfl))) | (refine wpAnyH_take (i := 4) rfl (by kernel_rfl) (by kernel_rfl) (by kernel_rfl) (fun _ _ _ h => h) (Or.inr ⟨by rfl, rfl⟩) (by assumption) ?_) | fail
     try simp only [Act.put, List.getElem_toArray, List.getElem_cons_zero, List.getElem_cons_succ, List.setIfInBounds_toArray, List.set_cons_zero, List.set_cons_succ]
     first | (refine wpAnyH_take (i := 6) (v := ?_) rfl (by kernel_rfl) (by kernel_rfl) (by kernel_rfl) (fun _ _ _ h => h) (Or.inl ⟨by rfl, ?_⟩) (by assumption) ?_; rotate_left; (focus (intro w hSw; (try dsimp only at hSw); go_simp; first | done | with_reducible rfl))) | (refine wpAnyH_take (i := 6) rfl (by kernel_rfl) (by kernel_rfl) (by kernel_rfl) (fun _ _ _ h => h) (Or.inr ⟨by rfl, rfl⟩) (by assumption) ?_) | fail
     try simp only [Act.put, List.getElem_toArray, List.getElem_cons_zero, List.getElem_cons_succ, List.setIfInBounds_toArray, List.set_cons_zero, List.set_cons_succ]
     refine wpAnyH_ready (rs := [5]) (by kernel_rfl) (by simp) (AllReadyH.cons rfl (fun K hK => ?_) AllReadyH.nil)
     (try go_simp)
     refine (slEnc_yes _ _ _ _ _ _ _ _ _ _ hl0 hE0 ⟨hl1.1, g0⟩ ⟨hl2.1, g1⟩ ⟨hl3.1, g2⟩ ⟨hl4.1, g3⟩ ⟨hl9.1, g4⟩ ⟨hl10.1, g5⟩ ⟨hl11.1, g6⟩ ⟨hl12.1, g7⟩).mono ?_
     rintro e w8 ⟨rfl, hb8⟩
     have hb8' := hb7'.trans (hb8.mono hb7'.size)
     have hS' := s25 S8 Xk hb8'
     clear hb8
     refine hK.out _ _ ?_ (fun hHeld => ?_)
     ·(try dsimp only)
      (first | assumption | exact s25')
     clear hK K
     try simp only [Act.put, List.getElem_toArray, List.getElem_cons_zero, List.getElem_cons_succ, List.setIfInBounds_toArray, List.set_cons_zero, List.set_cons_succ]
     first | (refine wpAnyH_take (i := 7) (v := ?_) rfl (by kernel_rfl) (by kernel_rfl) (by kernel_rfl) (fun _ _ _ h => h) (Or.inl ⟨by rfl, ?_⟩) (by assumption) ?_; rotate_left; (focus (intro w hSw; (try dsimp only at hSw); go_simp; first | done | with_reducible rfl))) | (refine wpAnyH_take (i := 7) rfl (by kernel_rfl) (by kernel_rfl) (by kernel_rfl) (fun _ _ _ h => h) (Or.inr ⟨by rfl, rfl⟩) (by assumption) ?_) | fail
     try simp only [Act.put, List.getElem_toArray, List.getElem_cons_zero, List.getElem_cons_succ, List.setIfInBounds_toArray, List.set_cons_zero, List.set_cons_succ]
     first | (refine wpAnyH_take (i := 8) (v := ?_) rfl (by kernel_rfl) (by kernel_rfl) (by kernel_rfl) (fun _ _ _ h => h) (Or.inl ⟨by rfl, ?_⟩) (by assumption) ?_; rotate_left; (focus (intro w hSw; (try dsimp only at hSw); go_simp; first | done | with_reducible rfl))) | (refine wpAnyH_take (i := 8) rfl (by kernel_rfl) (by kernel_rfl) (by kernel_rfl) (fun _ _ _ h => h) (Or.inr ⟨by rfl, rfl⟩) (by assumption) ?_) | fail
     try simp only [Act.put, List.getElem_toArray, List.getElem_cons_zero, List.getElem_cons_succ, List.setIfInBounds_toArray, List.set_cons_zero, List.set_cons_succ]
     refine wpAnyH_done (by kernel_rfl) ?_ _
     have hbE := (by assumption : _ ∧ _ ∧ _ ∧ _ ∧ _ ∧ _ ∧ _ ∧ _ ∧ _ ∧ _ ∧ _ ∧ _ ∧ _ ∧ _ ∧ _ ∧ _ ∧ _ ∧ _ ∧ _ ∧ _ ∧ _ ∧ _ ∧ _ ∧ _ ∧ _ ∧ Below _ _ _).2.2.2.2.2.2.2.2.2.2.2.2.2.2.2.2.2.2.2.2.2.2.2.2.2
     have RE := Rk.below hbE Rk.lt
     have SE := S8.below hbE S8.lt
     have BE := Bk.trans (hbE.mono Bk.size)
     have r0 := RE.cell 0 _ rfl
     have r1 := RE.cell 1 _ rfl
     have r2 := RE.cell 2 _ rfl
     have r3 := RE.cell 3 _ rfl
     have r4 := RE.cell 4 _ rfl
     have r5 := RE.cell 5 _ rfl
     have r6 := RE.cell 6 _ rfl
     have r7 := RE.cell 7 _ rfl
     have r8 := RE.cell 8 _ rfl
     have f0 := RE.frozen 0
     have f1 := RE.frozen 1
     have f2 := RE.frozen 2
     have f3 := RE.frozen 3
     have f4 := RE.frozen 4
     have f5 := RE.frozen 5
     have f6 := RE.frozen 6
     have f7 := RE.frozen 7
     have f8 := RE.frozen 8
     go_wp2_with fail
     exact bodyPost_ret (v := .tuple #[.agg #[.int .u64 0, .int .i64 0, .int .i64 0, .int .i64 0, .int .i64 0, .int .i64 0, .int .i64 0, .int .i64 0, .int .i64 0], .int .i64 26]) (by simp [results, go_sem, Try.results118, r0, r1, r2, r3, r4, r5, r6, r7, r8]) rfl ⟨rfl, (((((((((BE).setCell (by simp) _).setCell (by simp) _).setCell (by simp) _).setCell (by simp) _).setCell (by simp) _).setCell (by simp) _).setCell (by simp) _).setCell (by simp) _).setCell (by simp) _⟩
    | true =>
     have heqL : [l0, l1, l2, l3, l4, 0, 0, (St.sum0 l0 l1 l2 l3 l4), l0, l9, l10, l11, l12, 1, 0, (St.sum1 l0 l9 l10 l11 l12)] = [l0, l1, l2, l3, l4, l5, l6, (St.sum7 l0 l1 l2 l3 l4 l5 l6), l8, l9, l10, l11, l12, l13, l14, (St.sum7 l8 l9 l10 l11 l12 l13 l14)] := by unfold eqB at hec; simpa using hec
     have hyes : okD l0 l1 l2 l3 l4 l5 l6 l8 l9 l10 l11 l12 l13 l14 := by
      simp only [List.cons.injEq] at heqL
      have h := heqL
      exact ⟨HRB.out, h.2.2.2.2.2.1.symm, h.2.2.2.2.2.2.1.symm, h.2.2.2.2.2.2.2.2.1.symm, h.2.2.2.2.2.2.2.2.2.2.2.2.2.1.symm, h.2.2.2.2.2.2.2.2.2.2.2.2.2.2.1.symm⟩
     rcases hV.out with ⟨_, rfl, rfl⟩ | ⟨h, _, _⟩
     rotate_left
     ·exact absurd hyes h
     clear hyes hV
     have heq := line16_eq [l0, l1, l2, l3, l4, 0, 0, (St.sum0 l0 l1 l2 l3 l4), l0, l9, l10, l11, l12, 1, 0, (St.sum1 l0 l9 l10 l11 l12)] [l0, l1, l2, l3, l4, l5, l6, (St.sum7 l0 l1 l2 l3 l4 l5 l6), l8, l9, l10, l11, l12, l13, l14, (St.sum7 l8 l9 l10 l11 l12 l13 l14)] rfl rfl
     rw [hec] at heq
     simp only [List.map_cons, List.map_nil] at heq
     clear hec heqL
     have s25' := s25 S8 Xk (Below.refl _ _).drew
     go_wp2_with fail
     refine wp_region_held_drew (S := fun W => W.cell? ⟨w6.heap.size, 0, none⟩ = some (.int .u64 l0) ∧ W.cell? ⟨w6.heap.size, 1, none⟩ = some (.int .i64 l1) ∧ W.cell? ⟨w6.heap.size, 2, none⟩ = some (.int .i64 l2) ∧ W.cell? ⟨w6.heap.size, 3, none⟩ = some (.int .i64 l3) ∧ W.cell? ⟨w6.heap.size, 4, none⟩ = some (.int .i64 l4) ∧ W.cell? ⟨w6.heap.size, 5, none⟩ = some (.int .i64 l9) ∧ W.cell? ⟨w6.heap.size, 6, none⟩ = some (.int .i64 l10) ∧ W.cell? ⟨w6.heap.size, 7, none⟩ = some (.int .i64 l11) ∧ W.cell? ⟨w6.heap.size, 8, none⟩ = some (.int .i64 l12) ∧ W.cell? ⟨w.heap.size, 0, none⟩ = some (.int .u64 l0) ∧ W.cell? ⟨w.heap.size, 1, none⟩ = some (.int .u64 l1) ∧ W.cell? ⟨w.heap.size, 2, none⟩ = some (.int .u64 l2) ∧ W.cell? ⟨w.heap.size, 3, none⟩ = some (.int .u64 l3) ∧ W.cell? ⟨w.heap.size, 4, none⟩ = some (.int .u64 l4) ∧ W.cell? ⟨w.heap.size, 5, none⟩ = some (.int .u64 l5) ∧ W.cell? ⟨w.heap.size, 6, none⟩ = some (.int .u64 l6) ∧ W.cell? ⟨w.heap.size, 7, none⟩ = some (.int .u64 (St.sum7 l0 l1 l2 l3 l4 l5 l6)) ∧ W.cell? ⟨w.heap.size, 8, none⟩ = some (.int .u64 l8) ∧ W.cell? ⟨w.heap.size, 9, none⟩ = some (.int .u64 l9) ∧ W.cell? ⟨w.heap.size, 10, none⟩ = some (.int .u64 l10) ∧ W.cell? ⟨w.heap.size, 11, none⟩ = some (.int .u64 l11) ∧ W.cell? ⟨w.heap.size, 12, none⟩ = some (.int .u64 l12) ∧ W.cell? ⟨w.heap.size, 13, none⟩ = some (.int .u64 l13) ∧ W.cell? ⟨w.heap.size, 14, none⟩ = some (.int .u64 l14) ∧ W.cell? ⟨w.heap.size, 15, none⟩ = some (.int .u64 (St.sum7 l8 l9 l10 l11 l12 l13 l14)) ∧ Below wr.heap.size wr W) (by kernel_rfl) ?_ (fun hHeld => ?_)
     ·(try dsimp only)
      (first | assumption | exact s25')
     first | (refine wpAnyH_take (i := 0) (v := ?_) rfl (by kernel_rfl) (by kernel_rfl) (by kernel_rfl) (fun _ _ _ h => h) (Or.inl ⟨by rfl, ?_⟩) (by assumption) ?_; rotate_left; (focus (intro w hSw; (try dsimp only at hSw); go_simp; first | done | with_reducible rfl))) | (refine wpAnyH_take (i := 0) rfl (by kernel_rfl) (by kernel_rfl) (by kernel_rfl) (fun _ _ _ h => h) (Or.inr ⟨by rfl, rfl⟩) (by assumption) ?_) | fail
     try simp only [Act.put, List.getElem_toArray, List.getElem_cons_zero, List.getElem_cons_succ, List.setIfInBounds_toArray, List.set_cons_zero, List.set_cons_succ]
     refine wpAnyH_ready (rs := [1]) (by kernel_rfl) (by simp) (AllReadyH.cons rfl (fun K hK => ?_) AllReadyH.nil)
     (try go_simp)
     have hS := (by assumption : _ ∧ _ ∧ _ ∧ _ ∧ _ ∧ _ ∧ _ ∧ _ ∧ _ ∧ _ ∧ _ ∧ _ ∧ _ ∧ _ ∧ _ ∧ _ ∧ _ ∧ _ ∧ _ ∧ _ ∧ _ ∧ _ ∧ _ ∧ _ ∧ _ ∧ Below _ _ _).2.2.2.2.2.2.2.2.2.2.2.2.2.2.2.2.2.2.2.2.2.2.2.2.2
     refine (slRight_any _ _ _ _ _ _ _ _ _ _ hl0 hcapI.out).mono ?_
     rintro e w7 ⟨rfl, hb7⟩
     have hb7' := hS.trans (hb7.mono hS.size)
     have hS' := s25 S8 Xk hb7'
     clear hb7 hS
     refine hK.out _ _ ?_ (fun hHeld => ?_)
     ·(try dsimp only)
      (first | assumption | exact s25')
     clear hK K
     try simp only [Act.put, List.getElem_toArray, List.getElem_cons_zero, List.getElem_cons_succ, List.setIfInBounds_toArray, List.set_cons_zero, List.set_cons_succ]
     first | (refine wpAnyH_take (i := 2) (v := ?_) rfl (by kernel_rfl) (by kernel_rfl) (by kernel_rfl) (fun _ _ _ h => h) (Or.inl ⟨by rfl, ?_⟩) (by assumption) ?_; rotate_left; (focus (intro w hSw; (try dsimp only at hSw); go_simp; first | done | with_reducible rfl))) | (refine wpAnyH_take (i := 2) rfl (by kernel_rfl) (by kernel_rfl) (by kernel_rfl) (fun _ _ _ h => h) (Or.inr ⟨by rfl, rfl⟩) (by assumption) ?_) | fail
     try simp only [Act.put, List.getElem_toArray, List.getElem_cons_zero, List.getElem_cons_succ, List.setIfInBounds_toArray, List.set_cons_zero, List.set_cons_succ]
     first | (refine wpAnyH_take (i := 3) (v := ?_) rfl (by kernel_rfl) (by kernel_rfl) (by kernel_rfl) (fun _ _ _ h => h) (Or.inl ⟨by rfl, ?_⟩) (by assumption) ?_; rotate_left; (focus (intro w hSw; (try dsimp only at hSw); go_simp; first | done | with_reducible rfl))) | (refine wpAnyH_take (i := 3) rfl (by kernel_rfl) (by kernel_rfl) (by kernel_rfl) (fun _ _ _ h => h) (Or.inr ⟨by rfl, rfl⟩) (by assumption) ?_) | fail
     try simp only [Act.put, List.getElem_toArray, List.getElem_cons_zero, List.getElem_cons_succ, List.setIfInBounds_toArray, List.set_cons_zero, List.set_cons_succ]
     first | (refine wpAnyH_take (i := 4) (v := ?_) rfl (by kernel_rfl) (by kernel_rfl) (by kernel_rfl) (fun _ _ _ h => h) (Or.inl ⟨by rfl, ?_⟩) (by assumption) ?_; rotate_left; (focus (intro w hSw; (try dsimp only at hSw); go_simp; first | done | with_reducible rfl))) | (refine wpAnyH_take (i := 4) rfl (by kernel_rfl) (by kernel_rfl) (by kernel_rfl) (fun _ _ _ h => h) (Or.inr ⟨by rfl, rfl⟩) (by assumption) ?_) | fail
     try simp only [Act.put, List.getElem_toArray, List.getElem_cons_zero, List.getElem_cons_succ, List.setIfInBounds_toArray, List.set_cons_zero, List.set_cons_succ]
     first | (refine wpAnyH_take (i := 6) (v := ?_) rfl (by kernel_rfl) (by kernel_rfl) (by kernel_rfl) (fun _ _ _ h => h) (Or.inl ⟨by rfl, ?_⟩) (by assumption) ?_; rotate_left; (focus (intro w hSw; (try dsimp only at hSw); go_simp; first | done | with_reducible rfl))) | (refine wpAnyH_take (i := 6) rfl (by kernel_rfl) (by kernel_rfl) (by kernel_rfl) (fun _ _ _ h => h) (Or.inr ⟨by rfl, rfl⟩) (by assumption) ?_) | fail
     try simp only [Act.put, List.getElem_toArray, List.getElem_cons_zero, List.getElem_cons_succ, List.setIfInBounds_toArray, List.set_cons_zero, List.set_cons_succ]
     refine wpAnyH_ready (rs := [5]) (by kernel_rfl) (by simp) (AllReadyH.cons rfl (fun K hK => ?_) AllReadyH.nil)
     (try go_simp)
     refine (slEnc_yes _ _ _ _ _ _ _ _ _ _ hl0 hE0 ⟨hl1.1, g0⟩ ⟨hl2.1, g1⟩ ⟨hl3.1, g2⟩ ⟨hl4.1, g3⟩ ⟨hl9.1, g4⟩ ⟨hl10.1, g5⟩ ⟨hl11.1, g6⟩ ⟨hl12.1, g7⟩).mono ?_
     rintro e w8 ⟨rfl, hb8⟩
     have hb8' := hb7'.trans (hb8.mono hb7'.size)
     have hS' := s25 S8 Xk hb8'
     clear hb8
     refine hK.out _ _ ?_ (fun hHeld => ?_)
     ·(try dsimp only)
      (first | assumption | exact s25')
     clear hK K
     try simp only [Act.put, List.getElem_toArray, List.getElem_cons_zero, List.getElem_cons_succ, List.setIfInBounds_toArray, List.set_cons_zero, List.set_cons_succ]
     first | (refine wpAnyH_take (i := 7) (v := ?_) rfl (by kernel_rfl) (by kernel_rfl) (by kernel_rfl) (fun _ _ _ h => h) (Or.inl ⟨by rfl, ?_⟩) (by assumption) ?_; rotate_left; (focus (intro w hSw; (try dsimp only at hSw); go_simp; first | done | with_reducible rfl))) | (refine wpAnyH_take (i := 7) rfl (by kernel_rfl) (by kernel_rfl) (by kernel_rfl) (fun _ _ _ h => h) (Or.inr ⟨by rfl, rfl⟩) (by assumption) ?_) | fail
     try simp only [Act.put, List.getElem_toArray, List.getElem_cons_zero, List.getElem_cons_succ, List.setIfInBounds_toArray, List.set_cons_zero, List.set_cons_succ]
     first | (refine wpAnyH_take (i := 8) (v := ?_) rfl (by kernel_rfl) (by kernel_rfl) (by kernel_rfl) (fun _ _ _ h => h) (Or.inl ⟨by rfl, ?_⟩) (by assumption) ?_; rotate_left; (focus (intro w hSw; (try dsimp only at hSw); go_simp; first | done | with_reducible rfl))) | (refine wpAnyH_take (i := 8) rfl (by kernel_rfl) (by kernel_rfl) (by kernel_rfl) (fun _ _ _ h => h) (Or.inr ⟨by rfl, rfl⟩) (by assumption) ?_) | fail
     try simp only [Act.put, List.getElem_toArray, List.getElem_cons_zero, List.getElem_cons_succ, List.setIfInBounds_toArray, List.set_cons_zero, List.set_cons_succ]
     refine wpAnyH_done (by kernel_rfl) ?_ _
     have hbE := (by assumption : _ ∧ _ ∧ _ ∧ _ ∧ _ ∧ _ ∧ _ ∧ _ ∧ _ ∧ _ ∧ _ ∧ _ ∧ _ ∧ _ ∧ _ ∧ _ ∧ _ ∧ _ ∧ _ ∧ _ ∧ _ ∧ _ ∧ _ ∧ _ ∧ _ ∧ Below _ _ _).2.2.2.2.2.2.2.2.2.2.2.2.2.2.2.2.2.2.2.2.2.2.2.2.2
     have RE := Rk.below hbE Rk.lt
     have SE := S8.below hbE S8.lt
     have BE := Bk.trans (hbE.mono Bk.size)
     have r0 := RE.cell 0 _ rfl
     have r1 := RE.cell 1 _ rfl
     have r2 := RE.cell 2 _ rfl
     have r3 := RE.cell 3 _ rfl
     have r4 := RE.cell 4 _ rfl
     have r5 := RE.cell 5 _ rfl
     have r6 := RE.cell 6 _ rfl
     have r7 := RE.cell 7 _ rfl
     have r8 := RE.cell 8 _ rfl
     have f0 := RE.frozen 0
     have f1 := RE.frozen 1
     have f2 := RE.frozen 2
     have f3 := RE.frozen 3
     have f4 := RE.frozen 4
     have f5 := RE.frozen 5
     have f6 := RE.frozen 6
     have f7 := RE.frozen 7
     have f8 := RE.frozen 8
     have s0 := SE.cell 0 _ rfl
     have s1 := SE.cell 1 _ rfl
     have s2 := SE.cell 2 _ rfl
     have s3 := SE.cell 3 _ rfl
     have s4 := SE.cell 4 _ rfl
     have s5 := SE.cell 5 _ rfl
     have s6 := SE.cell 6 _ rfl
     have s7 := SE.cell 7 _ rfl
     have s8 := SE.cell 8 _ rfl
     go_wp2_with fail
     exact bodyPost_ret (v := .tuple #[.agg #[.int .u64 l0, .int .i64 l1, .int .i64 l2, .int .i64 l3, .int .i64 l4, .int .i64 l9, .int .i64 l10, .int .i64 l11, .int .i64 l12], .int .i64 0]) (by simp [results, go_sem, Try.results118, r0, r1, r2, r3, r4, r5, r6, r7, r8]) rfl ⟨rfl, (((((((((BE).setCell (by simp) _).setCell (by simp) _).setCell (by simp) _).setCell (by simp) _).setCell (by simp) _).setCell (by simp) _).setCell (by simp) _).setCell (by simp) _).setCell (by simp) _⟩
end Go.Proofs.Ytmekhdclnhhhbaa
end
