/- SuperCodes walked. -/
import Derived.Test.YtgcjagffoeoldaaSuper4
namespace Go.Proofs.Ytgcjagffoeoldaa
open Go.RowKit
set_option linter.unusedVariables false
set_option linter.unusedSimpArgs false
set_option maxHeartbeats 4000000
set_option maxRecDepth 100000
def U64 (x : Int) : Prop := 0 ≤ x ∧ x ≤ 18446744073709551615
theorem sDec_any (l0 l1 l2 l3 l4 l5 l6 l7 : Int) (w : World) (h0 : U64 l0) (h1 : U64 l1) (h2 : U64 l2) (h3 : U64 l3) (h4 : U64 l4) (h5 : U64 l5) (h6 : U64 l6) (h7 : U64 l7) :
    Calls Try.prog 14 #[.agg #[.int .u64 l0, .int .u64 l1, .int .u64 l2, .int .u64 l3, .int .u64 l4, .int .u64 l5, .int .u64 l6, .int .u64 l7]] w fun e w' => e = .returned (.tuple #[.agg #[.int .i64 (Su.decB l0 l1 l2 l3 l4 l5 l6 l7), .int .u64 (Su.decN l0 l1 l2 l3 l4 l5 l6 l7)], .int .i64 (Su.decE l0 l1 l2 l3 l4 l5 l6 l7)]) ∧ Below w.heap.size w w' := by
  by_cases c0 : l0 = 8390047168116913201
  · subst c0
    by_cases c7 : l7 = Su.sum7 l1 l2 l3 l4 l5 l6
    · subst c7
      by_cases c : Su.okB l1 l2 l4 l5 l6
      · obtain ⟨e1, e2, e3⟩ := Su.dec_ok l1 l2 l3 l4 l5 l6 c
        rw [e1, e2, e3]
        obtain ⟨rfl, rfl, rfl, rfl, c1, c2⟩ := c
        exact sDec_ok l2 l3 w h2 h3 c1 c2
      · obtain ⟨e1, e2, e3⟩ := Su.dec_range l1 l2 l3 l4 l5 l6 c
        rw [e1, e2, e3]
        rcases (show l2 < 2 ∨ (2 ≤ l2 ∧ l2 ≤ 256) ∨ (256 < l2 ∧ l2 ≤ 1073741824) ∨ 1073741824 < l2 from by omega) with g | ⟨g, g'⟩ | ⟨g, g'⟩ | g
        · exact sDec_low l1 l2 l3 l4 l5 l6 w h1 h2 h3 h4 h5 h6 g
        · exact sDec_not l1 l2 l3 l4 l5 l6 w h1 h2 h3 h4 h5 h6 g g' c
        · exact sDec_high l1 l2 l3 l4 l5 l6 w h1 h2 h3 h4 h5 h6 g g'
        · exact sDec_huge l1 l2 l3 l4 l5 l6 w h1 h2 h3 h4 h5 h6 g
    · obtain ⟨e1, e2, e3⟩ := Su.dec_sum l1 l2 l3 l4 l5 l6 l7 c7
      rw [e1, e2, e3]
      exact sDec_sum l1 l2 l3 l4 l5 l6 l7 w h1 h2 h3 h4 h5 h6 c7
  · obtain ⟨e1, e2, e3⟩ := Su.dec_magic l0 l1 l2 l3 l4 l5 l6 l7 c0
    rw [e1, e2, e3]
    exact sDec_magic l0 l1 l2 l3 l4 l5 l6 l7 w c0
theorem rsDec_any (l0 l1 l2 l3 l4 l5 l6 l7 : Int) (w : World) (h0 : U64 l0) (h1 : U64 l1) (h2 : U64 l2) (h3 : U64 l3) (h4 : U64 l4) (h5 : U64 l5) (h6 : U64 l6) (h7 : U64 l7) :
    Calls Try.prog 15 #[.agg #[.int .u64 l0, .int .u64 l1, .int .u64 l2, .int .u64 l3, .int .u64 l4, .int .u64 l5, .int .u64 l6, .int .u64 l7]] w fun e w' => e = .returned (.tuple #[.int .i64 (Su.decB l0 l1 l2 l3 l4 l5 l6 l7), .int .u64 (Su.decN l0 l1 l2 l3 l4 l5 l6 l7), .int .i64 (Su.decE l0 l1 l2 l3 l4 l5 l6 l7)]) ∧ Below w.heap.size w w' := by
  by_cases c0 : l0 = 8390047168116913201
  · subst c0
    by_cases c7 : l7 = Su.sum7 l1 l2 l3 l4 l5 l6
    · subst c7
      exact rsDec_loop l1 l2 l3 l4 l5 l6 w h1 h2 h3 h4 h5 h6
    · obtain ⟨e1, e2, e3⟩ := Su.dec_sum l1 l2 l3 l4 l5 l6 l7 c7
      rw [e1, e2, e3]
      exact rsDec_sum l1 l2 l3 l4 l5 l6 l7 w h1 h2 h3 h4 h5 h6 c7
  · obtain ⟨e1, e2, e3⟩ := Su.dec_magic l0 l1 l2 l3 l4 l5 l6 l7 c0
    rw [e1, e2, e3]
    exact rsDec_magic l0 l1 l2 l3 l4 l5 l6 l7 w c0
theorem awake5_any (w : World) : Calls Try.prog 13 #[] w fun e w' => e = .returned (.bool true) ∧ Below w.heap.size w w' := by
  go_enter Try.func13, Try.ntmps13
  go_wp2_with fail
  refine (sEnc_any 2 9 _ (by omega) (by omega) (by omega) (by omega)).mono ?_
  rintro e w1 ⟨rfl, hb⟩
  go_wp2_with fail
  go_ret
  exact ⟨by first | rfl | exact ret_bool rfl, hb.alloc hb.size _⟩
theorem walk8_SuperCodes (l0 l1 l2 l3 l4 l5 l6 l7 b id : Int) (w : World) (h0 : U64 l0) (h1 : U64 l1) (h2 : U64 l2) (h3 : U64 l3) (h4 : U64 l4) (h5 : U64 l5) (h6 : U64 l6) (h7 : U64 l7) (wb : (Lit.int .u16 b).wf = true) (wi : (Lit.int .u64 id).wf = true) :
    Calls Try.prog 3 #[.agg #[.int .u64 l0, .int .u64 l1, .int .u64 l2, .int .u64 l3, .int .u64 l4, .int .u64 l5, .int .u64 l6, .int .u64 l7], .int .u16 b, .int .u64 id] w fun e w' => e = .returned (.bool true) ∧ Below w.heap.size w w' := by
  have bb := bounds_u16 wb
  have bi := bounds_u64 wi
  clear wb wi
  have H0 := Lib.hid h0
  have H1 := Lib.hid h1
  have H2 := Lib.hid h2
  have H3 := Lib.hid h3
  have H4 := Lib.hid h4
  have H5 := Lib.hid h5
  have H6 := Lib.hid h6
  have H7 := Lib.hid h7
  clear h0 h1 h2 h3 h4 h5 h6 h7
  have heq := line_eq [8390047168116913201, 1, b, id, 0, 0, 0, Su.crc b id] [8390047168116913201, 1, b, id, 0, 0, 0, Su.crc b id] rfl rfl
  rw [eqB_yes _ _ rfl] at heq
  simp only [List.map_cons, List.map_nil] at heq
  have X := Lib.hid (Blk.new w #[.int .u64 l0, .int .u64 l1, .int .u64 l2, .int .u64 l3, .int .u64 l4, .int .u64 l5, .int .u64 l6, .int .u64 l7] 23)
  have hB : Below w.heap.size w (w.alloc (.cells #[.int .u64 l0, .int .u64 l1, .int .u64 l2, .int .u64 l3, .int .u64 l4, .int .u64 l5, .int .u64 l6, .int .u64 l7] 23)) := (Below.refl _ _).alloc (Nat.le_refl _) _
  go_enter Try.func3, Try.ntmps3
  go_wp2_with fail
  refine (awake5_any _).mono ?_
  rintro e w1 ⟨rfl, hb1⟩
  have X1 := X.out.below hb1 X.out.lt
  have hB1 := hB.trans (hb1.mono hB.size)
  have s1 := s8 X1 (Below.refl _ _)
  clear hb1
  go_wp2_with fail
  refine (sDec_any _ _ _ _ _ _ _ _ _ H0.out H1.out H2.out H3.out H4.out H5.out H6.out H7.out).mono ?_
  rintro e w2 ⟨rfl, hb2⟩
  have X2 := X1.below hb2 X1.lt
  have hB2 := hB1.trans (hb2.mono hB1.size)
  have s2 := s8 X2 (Below.refl _ _)
  have hz2 : w.heap.size < w2.heap.size := X2.lt
  clear hb2 s1
  go_wp2_with fail
  have S2 := Blk.new w2 #[.int .i64 (Su.decB l0 l1 l2 l3 l4 l5 l6 l7), .int .u64 (Su.decN l0 l1 l2 l3 l4 l5 l6 l7)] 27
  have hB2' := hB2.alloc hB2.size (.cells #[.int .i64 (Su.decB l0 l1 l2 l3 l4 l5 l6 l7), .int .u64 (Su.decN l0 l1 l2 l3 l4 l5 l6 l7)] 27)
  refine (rsDec_any _ _ _ _ _ _ _ _ _ H0.out H1.out H2.out H3.out H4.out H5.out H6.out H7.out).mono ?_
  rintro e w3 ⟨rfl, hb3⟩
  have S3 := S2.below hb3 S2.lt
  have hB3 := hB2'.trans (hb3.mono hB2'.size)
  have hz3 : w2.heap.size < w3.heap.size := S3.lt
  have t0 := S3.cell 0 _ rfl
  have t1 := S3.cell 1 _ rfl
  clear hb3 s2 hB2 hB2'
  go_wp2_with (first
    | (go_at_call 16; refine (sEnc_any _ _ _ (by omega) (by omega) (by omega) (by omega)).mono ?_; rintro e w4 ⟨rfl, hb4⟩)
    | (go_at_call 17; refine (rsEnc_any _ _ _ (by omega) (by omega) (by omega) (by omega)).mono ?_; rintro e w5 ⟨rfl, hb5⟩))
  go_ret
  have hB4 := (hB3.alloc hB3.size (.cells #[.int .i64 b, .int .u64 id] 27))
  have hB5 := hB4.trans (hb4.mono hB4.size)
  exact ⟨by first | rfl | exact ret_bool rfl | exact ret_bool (by simp), hB5.trans (hb5.mono hB5.size)⟩
theorem list8 {z : List Int} (h : z.length = 8) : ∃ a b c d e f g i, z = [a, b, c, d, e, f, g, i] := by
  match z, h with
  | [a, b, c, d, e, f, g, i], _ => exact ⟨a, b, c, d, e, f, g, i, rfl⟩
theorem walk_SuperCodes (z : List Int) (b id : Int) (w : World) (hz : z.length = 8) (wz : ∀ x ∈ z, (Lit.int .u64 x).wf = true) (wb : (Lit.int .u16 b).wf = true) (wi : (Lit.int .u64 id).wf = true) :
    Calls Try.prog 3 #[.agg (z.map (Value.int .u64)).toArray, .int .u16 b, .int .u64 id] w fun e w' => e = .returned (.bool true) ∧ Below w.heap.size w w' := by
  obtain ⟨l0, l1, l2, l3, l4, l5, l6, l7, rfl⟩ := list8 hz
  have q : ∀ x ∈ [l0, l1, l2, l3, l4, l5, l6, l7], U64 x := fun x hx => bounds_u64 (wz x hx)
  exact walk8_SuperCodes l0 l1 l2 l3 l4 l5 l6 l7 b id w (q _ (by simp)) (q _ (by simp)) (q _ (by simp)) (q _ (by simp)) (q _ (by simp)) (q _ (by simp)) (q _ (by simp)) (q _ (by simp)) wb wi
end Go.Proofs.Ytgcjagffoeoldaa
