/- The statements CrcSeals and CrcJoins: the Go functions answer true. -/
import Derived.Test.YtpecfbdmgdpnnaaCrc2
namespace Go.Proofs.Ytpecfbdmgdpnnaa
open Go.RowKit
set_option linter.unusedVariables false
set_option maxHeartbeats 400000
theorem walk_CrcSeals (n p x : Int) (w : World) (w0 : (Lit.int .u32 n).wf = true) (w1 : (Lit.int .i64 p).wf = true) (w2 : (Lit.int .u64 x).wf = true) :
    Calls Try.prog 12 #[.int .u32 n, .int .i64 p, .int .u64 x] w fun e w' => e = .returned (.bool true) ∧ Below w.heap.size w w' := by
  have b0 := bounds_u32 w0
  have b1 := bounds_i64 w1
  have b2 := bounds_u64 w2
  clear w0 w1 w2
  have hs := Sl.seal_bd n p b0.1 b0.2
  have ho := Sl.open_seal n p b0.1 b0.2
  have ho1 := ho.1
  have ho2 := ho.2
  clear ho
  go_enter Try.func12, Try.ntmps12
  go_wp2_with fail
  refine (awake2_any _).mono ?_
  rintro e u1 ⟨rfl, hb1⟩
  go_wp2_with fail
  refine (seal_any _ _ _ (by omega) (by omega) (by omega) (by omega)).mono ?_
  rintro e u2 ⟨rfl, hb2⟩
  go_wp2_with fail
  refine (open_any _ _ _ (by omega) (by omega) (by omega) (by omega)).mono ?_
  rintro e u3 ⟨rfl, hb3⟩
  go_wp2_with fail
  refine (open_any _ _ _ (by omega) (by omega) (by omega) (by omega)).mono ?_
  rintro e u4 ⟨rfl, hb4⟩
  go_wp2_with fail
  refine (rOpen_any _ _ _ (by omega) (by omega) (by omega) (by omega)).mono ?_
  rintro e u5 ⟨rfl, hb5⟩
  go_wp2_with fail
  refine (rSeal_any _ _ _ (by omega) (by omega) (by omega) (by omega)).mono ?_
  rintro e u6 ⟨rfl, hb6⟩
  go_wp2_with fail
  go_ret
  have z1 := hb1.size
  have z2 := hb2.size
  have z3 := hb3.size
  have z4 := hb4.size
  have z5 := hb5.size
  exact ⟨rfl, ((((hb1.trans (hb2.mono (by omega))).trans (hb3.mono (by omega))).trans (hb4.mono (by omega))).trans (hb5.mono (by omega))).trans (hb6.mono (by omega))⟩
theorem own_empty (w : World) (T : TypeId) : (w.alloc (.cells #[] T)).ownsRow w.heap.size T 1 (.slice (some ⟨w.heap.size, 0, none⟩) 0 0) 0 [] :=
  ⟨rfl, .inr ⟨w.heap.size, 0, #[], rfl, Nat.le_refl _, heap_alloc_new w _, Nat.le_refl _, Nat.zero_le _, rfl, rfl⟩⟩
theorem walk_CrcJoins (a : Option Addr) (la ca : Nat) (za : List Int) (b : Option Addr) (lb cb : Nat) (zb : List Int) (c : Option Addr) (lc cc : Nat) (zc : List Int) (w : World) (w0 : IsRow .u8 w a la ca za) (w1 : IsRow .u8 w b lb cb zb) (w2 : IsRow .u64 w c lc cc zc) :
    Calls Try.prog 8 #[.slice a la ca, .slice b lb cb, .slice c lc cc] w fun e w' => e = .returned (.bool true) ∧ Below w.heap.size w w' := by
  have na := Lib.hid (nil_cap w0)
  have nb := Lib.hid (nil_cap w1)
  obtain ⟨xa, ra, ia, hxa, hla, hca⟩ := row_of_arg w0
  obtain ⟨xb, rb, ib, hxb, hlb, hcb⟩ := row_of_arg w1
  obtain ⟨xc, rc, ic, hxc, hlc, hcc⟩ := row_of_arg w2
  unfold maxLen at hca hcb hcc
  have RA := Lib.hid ra
  have RB := Lib.hid rb
  have RC := Lib.hid rc
  have IA := Lib.hid ia
  have IB := Lib.hid ib
  have IC := Lib.hid ic
  have hj := Cr.more_append 0 xa xb
  have hmb := Cr.more_bd 0 xa (by omega) (by omega) (fun z hz => bounds_u8 (ia z hz))
  clear w0 w1 w2 ra rb rc ia ib ic hxa hxb hxc
  obtain ⟨i0, hi0, hz0, hz1, hz2⟩ := info_parts info_u8
  go_enter Try.func8, Try.ntmps8
  go_wp2_with fail
  refine (awake2_any _).mono ?_
  rintro e u1 ⟨rfl, hb1⟩
  by_cases c1 : (1000 : Int) < la
  · go_wp2_with fail
    go_ret
    exact ⟨rfl, hb1⟩
  · by_cases c2 : (1000 : Int) < lb
    · go_wp2_with fail
      go_ret
      exact ⟨rfl, hb1⟩
    · by_cases c3 : (100 : Int) < lc
      · go_wp2_with fail
        go_ret
        exact ⟨rfl, hb1⟩
      · go_wp2_with fail
        refine (sum_any _ _ _ xa _ _ (RA.out.below hb1) IA.out (by omega)).mono ?_
        rintro e w' ⟨rfl, rfl⟩
        go_wp2_with (first
          | (go_at_call 16; refine (more_any _ _ _ _ xb _ _ (by omega) (by omega) (RB.out.below hb1) IB.out (by omega)).mono ?_; rintro e w' ⟨rfl, rfl⟩)
          | (at_builtin; refine wpList_appN (P := Try.prog) rfl (.tmp 26) (.tmp 27) 23 rfl u1.heap.size 5 i0 (.int .u8 0) 1 Try.underlying23 hi0 hz0 hz1 hz2 rfl _ 0 [] rfl (own_empty u1 _) u1.heap.size _ _ _ (xa.map (Value.int .u8)) rfl (((RA.out.below hb1).more hb1.size).alloc (Nat.le_refl _) _) na.out (ints_oneCell _ _) (by unfold maxLen; omega) (by omega) (by simp) w.heap.size w (hb1.alloc hb1.size _) hb1.size (by have := hb1.size; simp; omega) ?_; intro v2 u2 hown2 hbe2 hlt2 _)
          | (at_builtin; refine wpList_appN (P := Try.prog) rfl (.tmp 28) (.tmp 29) 23 rfl u1.heap.size 5 i0 (.int .u8 0) 1 Try.underlying23 hi0 hz0 hz1 hz2 rfl _ (0 + la) ([] ++ xa.map (Value.int .u8)) rfl hown2 w.heap.size _ _ _ (xb.map (Value.int .u8)) rfl (RB.out.below hbe2) nb.out (ints_oneCell _ _) (by unfold maxLen; omega) (by omega) (by simp at hlt2; omega) w.heap.size w hbe2 hb1.size hbe2.size ?_; intro v3 u3 hown3 hbe3 hlt3 _))
        obtain ⟨A3, c3', rfl, hs1, hs2, _⟩ := own_shape hown3
        have hr3 := RowAt.of_own hown3
        have er : ([] ++ xa.map (Value.int .u8)) ++ xb.map (Value.int .u8) = (xa ++ xb).map (Value.int .u8) := by simp
        rw [er] at hr3
        have hi3 : Ints .u8 (xa ++ xb) := fun z hz => by
          rcases List.mem_append.1 hz with h | h
          · exact IA.out z h
          · exact IB.out z h
        have HR3 := Lib.hid hr3
        have HI3 := Lib.hid hi3
        have z1 := hb1.size
        have z3 := hbe3.size
        clear hr3 hi3 er hown3 hown2
        refine (sum_any _ _ _ (xa ++ xb) _ _ HR3.out HI3.out (by omega)).mono ?_
        rintro e w' ⟨rfl, rfl⟩
        go_wp2_with fail
        refine (crcWords_any _ _ _ xc _ _ (RC.out.below hbe3) IC.out (by omega) z3).mono ?_
        rintro e u4 ⟨rfl, hb4⟩
        have hbe4 := hbe3.trans (hb4.mono z3)
        have z4 := hbe4.size
        go_wp2_with fail
        refine (rCrcWords_any _ _ _ xc _ _ (RC.out.below hbe4) IC.out (by omega) z4).mono ?_
        rintro e u5 ⟨rfl, hb5⟩
        go_wp2_with fail
        go_ret
        exact ⟨rfl, hbe4.trans (hb5.mono z4)⟩
end Go.Proofs.Ytpecfbdmgdpnnaa
