/- CellsAddresses walked. -/
import Derived.Test.YtchobkabndnhoaaCells4
import Derived.Test.YtchobkabndnhoaaMem2
namespace Go.Proofs.Ytchobkabndnhoaa
open Go.RowKit
set_option linter.unusedVariables false
set_option linter.unusedSimpArgs false
set_option maxHeartbeats 4000000
set_option maxRecDepth 100000
theorem keepN4 {w W : World} {p1 p2 p3 p4 : Addr} {v1 v2 v3 v4 : Value} (n : Nat) (h : W.cell? p1 = some v1 ∧ W.cell? p2 = some v2 ∧ W.cell? p3 = some v3 ∧ W.cell? p4 = some v4 ∧ Below w.heap.size w W) :
    (W.drewN n).cell? p1 = some v1 ∧ (W.drewN n).cell? p2 = some v2 ∧ (W.drewN n).cell? p3 = some v3 ∧ (W.drewN n).cell? p4 = some v4 ∧ Below w.heap.size w (W.drewN n) :=
  ⟨h.1, h.2.1, h.2.2.1, h.2.2.2.1, below_drewN h.2.2.2.2 n⟩
def okH (n k a : Int) : Bool := decide (0 ≤ Ce.holdI n k a)
def isH (n k a : Int) : Bool := decide (0 ≤ Ce.holdI n k a ∧ a = 512 * Ce.holdB n k a + Ce.holdI n k a * Cl.words k)
def hI (n k a : Int) : Int := if okH n k a then Ce.holdI n k a else 0
theorem cHold_any (n k a : Int) (w : World) (h1 : 0 ≤ n) (h3 : n ≤ 1000000) (a1 : -9223372036854775808 ≤ a) (a2 : a ≤ 9223372036854775807) (k1 : -9223372036854775808 ≤ k) (k2 : k ≤ 9223372036854775807) :
    Calls Try.prog 24 #[.agg #[.int .i64 n], .int .i64 k, .int .i64 a] w fun e w' => e = .returned (.tuple #[.agg #[.int .i64 (Ce.holdB n k a), .int .i64 (hI n k a)], .bool (okH n k a)]) ∧ Below w.heap.size w w' := by
  by_cases hk : 0 ≤ k ∧ k < 32
  · by_cases ha : 512 ≤ a ∧ a < 512 * n
    · by_cases hc : a % 512 / Cl.words k < Cl.cells k
      · obtain ⟨e1, e2, e3⟩ := Ce.hold_in n k a ha.1 ha.2 hk.1 hk.2 hc
        have e4 : okH n k a = true := by unfold okH; rw [e1]; simpa using e3
        have e5 : hI n k a = a % 512 / Cl.words k := by unfold hI; rw [e4, if_pos rfl, e1]
        rw [e2, e4, e5]
        exact cHold_yes n k a w h1 h3 ha.1 ha.2 hk.1 hk.2 hc
      · obtain ⟨e1, e2⟩ := Ce.hold_out n k a (by omega)
        have e4 : okH n k a = false := by unfold okH; rw [e1]; rfl
        have e5 : hI n k a = 0 := by unfold hI; rw [e4]; rfl
        rw [e2, e4, e5]
        exact cHold_none n k a w h1 h3 ha.1 ha.2 hk.1 hk.2 (by omega)
    · obtain ⟨e1, e2⟩ := Ce.hold_out n k a (by omega)
      have e4 : okH n k a = false := by unfold okH; rw [e1]; rfl
      have e5 : hI n k a = 0 := by unfold hI; rw [e4]; rfl
      rw [e2, e4, e5]
      exact cHold_far n k a w h1 h3 a1 a2 hk.1 hk.2 ha
  · obtain ⟨e1, e2⟩ := Ce.hold_out n k a (by omega)
    have e4 : okH n k a = false := by unfold okH; rw [e1]; rfl
    have e5 : hI n k a = 0 := by unfold hI; rw [e4]; rfl
    rw [e2, e4, e5]
    exact cHold_wrong n k a w h1 h3 a1 a2 k1 k2 (by omega)
def AtSaid (n k a : Int) (w : World) (e : Ending) (w' : World) : Prop :=
  ∃ x y : Int, e = .returned (.tuple #[.agg #[.int .i64 x, .int .i64 y], .bool (isH n k a)]) ∧ Below w.heap.size w w' ∧ (isH n k a = true → x = Ce.holdB n k a ∧ y = Ce.holdI n k a)
theorem cAt_any (n k a : Int) (w : World) (h1 : 0 ≤ n) (h3 : n ≤ 1000000) (a1 : -9223372036854775808 ≤ a) (a2 : a ≤ 9223372036854775807) (k1 : -9223372036854775808 ≤ k) (k2 : k ≤ 9223372036854775807) :
    Calls Try.prog 25 #[.agg #[.int .i64 n], .int .i64 k, .int .i64 a] w (AtSaid n k a w) := by
  have out : (¬ (512 ≤ a ∧ a < 512 * n ∧ 0 ≤ k ∧ k < 32 ∧ a % 512 / Cl.words k < Cl.cells k)) → isH n k a = false := fun h => by
    unfold isH; rw [(Ce.hold_out n k a h).1]; simp
  by_cases hk : 0 ≤ k ∧ k < 32
  · by_cases ha : 512 ≤ a ∧ a < 512 * n
    · refine (cAt_in n k a w h1 h3 ha.1 ha.2 hk.1 hk.2).mono ?_
      rintro e w' ⟨rfl, hb⟩
      by_cases hc : a % 512 / Cl.words k < Cl.cells k
      · obtain ⟨e1, e2, e3⟩ := Ce.hold_in n k a ha.1 ha.2 hk.1 hk.2 hc
        have e6 := Ce.address_in n k (a / 512) (a % 512 / Cl.words k) hk.1 hk.2 (by omega) (by omega) e3 hc
        have e7 : (Ce.address n k (a / 512) (a % 512 / Cl.words k) == a) = isH n k a := by
          unfold isH
          rw [e6, e1, e2, Bool.eq_iff_iff]
          simp only [beq_iff_eq, decide_eq_true_eq]
          constructor
          · intro h; exact ⟨e3, by omega⟩
          · intro h; omega
        exact ⟨_, _, by rw [e7], hb, fun _ => ⟨e2.symm, e1.symm⟩⟩
      · have e6 := Ce.address_out n k (a / 512) (a % 512 / Cl.words k) (by omega)
        have e7 : (Ce.address n k (a / 512) (a % 512 / Cl.words k) == a) = isH n k a := by
          rw [out (by omega), e6, beq_eq_false_iff_ne]; omega
        exact ⟨_, _, by rw [e7], hb, fun h => by rw [out (by omega)] at h; cases h⟩
    · refine (cAt_far n k a w h1 h3 a1 a2 hk.1 hk.2 ha).mono ?_
      rintro e w' ⟨rfl, hb⟩
      exact ⟨0, 0, by rw [out (by omega)], hb, fun h => by rw [out (by omega)] at h; cases h⟩
  · refine (cAt_wrong n k a w h1 h3 a1 a2 k1 k2 (by omega)).mono ?_
    rintro e w' ⟨rfl, hb⟩
    exact ⟨0, 0, by rw [out (by omega)], hb, fun h => by rw [out (by omega)] at h; cases h⟩
theorem walk_CellsAddresses (n k a b i : Int) (w : World) (wn : (Lit.int .u8 n).wf = true) (wk : (Lit.int .i64 k).wf = true) (wa : (Lit.int .i64 a).wf = true) (wb : (Lit.int .i64 b).wf = true) (wi : (Lit.int .i64 i).wf = true) :
    Calls Try.prog 6 #[.int .u8 n, .agg #[.int .i64 k, .int .i64 a], .agg #[.int .i64 b, .int .i64 i]] w fun e w' => e = .returned (.bool true) ∧ Below w.heap.size w w' := by
  have bn := bounds_u8 wn
  have bk := bounds_i64 wk
  have ba := bounds_i64 wa
  have bb := bounds_i64 wb
  have bi := bounds_i64 wi
  clear wn wk wa wb wi
  have hlen := Ce.all_len n k b
  have hwf : Ints .i64 (Ce.all n k b) := fun x hx => wf_i64 (by have := Ce.all_bd n k b (by omega) x hx; omega)
  have HWF := Lib.hid hwf
  have HGET := Lib.hid (Ce.all_get n k b)
  clear hwf
  have hK0 := grow2_0 (.int .i64 k) (.int .i64 a) 30 (Below.refl w.heap.size w)
  have hK := grow2_2 (.int .i64 b) (.int .i64 i) 43 hK0
  clear hK0
  rw [World.size_alloc] at hK
  go_enter Try.func6, Try.ntmps6
  go_wp2_with (first
      | (go_at_call 17; refine (awake9_any _).mono ?_; rintro e w' ⟨rfl, hb'⟩; first | (replace hK := keep4 hb' hK) | (replace hK := keep4 hb' (keepA4 _ hK)) | (replace hK := keep4 hb' (keepA4 _ (keepA4 _ hK))) | (replace hK := keep4 hb' (keepD4 hK)); clear hb'))
  go_quiet (fail)
  have hK' := keepN4 nq hK
  clear hK
  generalize World.drewN _ nq = v1 at *
  have hK2 := grow1_2 (.int .i64 n) 35 ⟨hK'.2.2.1, hK'.2.2.2.1, hK'.2.2.2.2⟩
  clear hK' hb'
  obtain ⟨hz1, hz2⟩ : w.heap.size + 1 < v1.heap.size + 1 ∧ w.heap.size ≤ v1.heap.size := by
    have h1 := cell_lt hK2.1
    rw [World.size_alloc] at h1
    have h1 : w.heap.size + 1 < v1.heap.size + 1 := h1
    exact ⟨h1, by omega⟩
  go_wp2_with fail
  refine (rAll9_any _ _ _ _ (by omega) (by omega) (by omega) (by omega)).mono ?_
  rintro e v2 ⟨vv, rfl, ho, hb2⟩
  have hK := keep3 hb2 hK2
  clear hK2
  obtain ⟨A, c, rfl, hnc, hcm, hAn⟩ := own_shape ho
  have HR := Lib.hid (RowAt.of_own ho)
  clear ho hAn
  have hadr : (∃ j : Nat, i = j ∧ ∃ x, (Ce.all n k b)[j]? = some x ∧ Ce.address n k b i = x) ∨ ((i < 0 ∨ (Ce.all n k b).length ≤ i) ∧ Ce.address n k b i = -1) := by
    by_cases hi : 0 ≤ i ∧ i < (Ce.all n k b).length
    · left
      obtain ⟨j, rfl⟩ := Int.eq_ofNat_of_zero_le hi.1
      have hj : j < (Ce.all n k b).length := by omega
      refine ⟨j, rfl, _, List.getElem?_eq_getElem hj, ?_⟩
      obtain ⟨q1, q2, q3, q4, q5, q6⟩ := HGET.out j _ (List.getElem?_eq_getElem hj)
      rw [Ce.address_in n k b j q3 q4 q1 q2 (by omega) q5, q6]
      omega
    · right
      refine ⟨by omega, Ce.address_out _ _ _ _ ?_⟩
      rintro ⟨q1, q2, q3, q4, q5, q6⟩
      rw [Ce.all_in n k b q3 q4, Ce.upto_len] at hi
      omega
  generalize hm : (Ce.all n k b).length = m at *
  have HM := Lib.hid hm
  clear hm
  have hnot : i < 0 → decide (0 ≤ i) = false := fun h => by simpa using h
  rcases hadr with ⟨j, rfl, x, hx, hadr⟩ | ⟨hi | hi, hadr⟩
  · have hj : j < m := by
      have := (List.getElem?_eq_some_iff.1 hx).1
      rw [HM.out] at this; exact this
    obtain ⟨bb, off, y, rfl, hbl, hy, hwy, hcy⟩ := HR.out.int HWF.out hj
    obtain rfl : x = y := by rw [hx] at hy; exact Option.some.inj hy
    have hxb := bounds_i64 hwy
    clear hy hwy hx hnot
    replace hadr := Lib.hid hadr
    go_wp2_with (first
      | (go_at_call 23; refine (rHold9_any _ _ _ _ (by omega) (by omega) (by omega) (by omega) (by omega) (by omega)).mono ?_; rintro e v3 ⟨rfl, hb3⟩; replace hK := keep3 hb3 hK; clear hb3)
      | (go_at_call 24; refine (cHold_any _ _ _ _ (by omega) (by omega) (by omega) (by omega) (by omega) (by omega)).mono ?_; rintro e v4 ⟨rfl, hb4⟩; replace hK := keep3 hb4 hK; clear hb4; have hz3 : v1.heap.size < v4.heap.size := cell_lt hK.2.2.1; have hz4 : w.heap.size + 1 < v4.heap.size := cell_lt hK.1))
    have hK5 := grow2_3 (.int .i64 (Ce.holdB n k a)) (.int .i64 (hI n k a)) 43 hK
    clear hK
    refine (cAt_any _ _ _ _ (by omega) (by omega) (by omega) (by omega) (by omega) (by omega)).mono ?_
    rintro e v5 ⟨x', y', rfl, hb5, hat⟩
    have hK := keep5 hb5 hK5
    clear hK5
    replace hat := Lib.hid hat
    have hz5 : v1.heap.size < v5.heap.size := cell_lt hK.2.2.1
    have hz6 : w.heap.size + 1 < v5.heap.size := cell_lt hK.1
    have hz7 : v4.heap.size < v5.heap.size := cell_lt hK.2.2.2.1
    go_wp2_with fail
    have hK7 := grow2_5 (.int .i64 x') (.int .i64 y') 43 hK
    clear hK
    refine (address_any _ _ _ _ _ (by omega) (by omega) (by omega) (by omega) (by omega) (by omega) (by omega) (by omega)).mono ?_
    rintro e v6 ⟨rfl, hb6⟩
    rw [hadr.out]
    have hK := keep7 hb6 hK7
    clear hK7
    rcases Ce.hold_cases n k a (by omega) with ⟨e1, e2⟩ | ⟨e1, e2, e3, e4, e5, e6⟩
    · have e3 : okH n k a = false := by unfold okH; rw [e1]; rfl
      have e4 : hI n k a = 0 := by unfold hI; rw [e3]; rfl
      have e5 : isH n k a = false := by unfold isH; rw [e1]; simp
      rw [e1, e2, e3, e4, e5]
      clear hat
      go_wp2_with fail
      go_ret
      exact ⟨by first | rfl | exact ret_bool rfl | exact ret_bool (by simp), (by assumption : _ ∧ _ ∧ _ ∧ _ ∧ _ ∧ _ ∧ _ ∧ Below _ _ _).2.2.2.2.2.2.2⟩
    · have e7 : okH n k a = true := by unfold okH; simpa using e1
      have e8 : hI n k a = Ce.holdI n k a := by unfold hI; rw [e7]; rfl
      have e9 : isH n k a = (a == 512 * Ce.holdB n k a + Ce.holdI n k a * Cl.words k) := by
        unfold isH; rw [Bool.eq_iff_iff]; simp [e1]
      have hw := Cl.words_bd k
      replace e9 := Lib.hid e9
      have hat2 := Lib.hid (fun h => hat.out h)
      clear hat
      rw [e7, e8]
      rw [e8] at hK
      rcases (show isH n k a = false ∨ isH n k a = true from by cases isH n k a <;> simp) with hb9 | hb9
      · have e10 := e9.out.symm
        rw [hb9] at e10
        rw [hb9]
        clear hat2 e9
        go_wp2_with (first
          | (go_at_call 27; refine (rWords_any _ _ (by omega) (by omega)).mono ?_; rintro e v7 ⟨rfl, hb7⟩; replace hK := keep7 hb7 hK; clear hb7))
        go_ret
        exact ⟨by first | rfl | exact ret_bool rfl | exact ret_bool (by simp), (by assumption : _ ∧ _ ∧ _ ∧ _ ∧ _ ∧ _ ∧ _ ∧ Below _ _ _).2.2.2.2.2.2.2⟩
      · have e10 := e9.out.symm
        rw [hb9] at e10
        rw [hb9]
        obtain ⟨rfl, rfl⟩ := hat2.out hb9
        clear hat2 e9
        go_wp2_with (first
          | (go_at_call 27; refine (rWords_any _ _ (by omega) (by omega)).mono ?_; rintro e v7 ⟨rfl, hb7⟩; replace hK := keep7 hb7 hK; clear hb7))
        go_ret
        exact ⟨by first | rfl | exact ret_bool rfl | exact ret_bool (by simp), (by assumption : _ ∧ _ ∧ _ ∧ _ ∧ _ ∧ _ ∧ _ ∧ Below _ _ _).2.2.2.2.2.2.2⟩
  · clear hnot
    replace hadr := Lib.hid hadr
    go_wp2_with (first
      | (go_at_call 23; refine (rHold9_any _ _ _ _ (by omega) (by omega) (by omega) (by omega) (by omega) (by omega)).mono ?_; rintro e v3 ⟨rfl, hb3⟩; replace hK := keep3 hb3 hK; clear hb3)
      | (go_at_call 24; refine (cHold_any _ _ _ _ (by omega) (by omega) (by omega) (by omega) (by omega) (by omega)).mono ?_; rintro e v4 ⟨rfl, hb4⟩; replace hK := keep3 hb4 hK; clear hb4; have hz3 : v1.heap.size < v4.heap.size := cell_lt hK.2.2.1; have hz4 : w.heap.size + 1 < v4.heap.size := cell_lt hK.1))
    have hK5 := grow2_3 (.int .i64 (Ce.holdB n k a)) (.int .i64 (hI n k a)) 43 hK
    clear hK
    refine (cAt_any _ _ _ _ (by omega) (by omega) (by omega) (by omega) (by omega) (by omega)).mono ?_
    rintro e v5 ⟨x', y', rfl, hb5, hat⟩
    have hK := keep5 hb5 hK5
    clear hK5
    replace hat := Lib.hid hat
    have hz5 : v1.heap.size < v5.heap.size := cell_lt hK.2.2.1
    have hz6 : w.heap.size + 1 < v5.heap.size := cell_lt hK.1
    have hz7 : v4.heap.size < v5.heap.size := cell_lt hK.2.2.2.1
    go_wp2_with fail
    have hK7 := grow2_5 (.int .i64 x') (.int .i64 y') 43 hK
    clear hK
    refine (address_any _ _ _ _ _ (by omega) (by omega) (by omega) (by omega) (by omega) (by omega) (by omega) (by omega)).mono ?_
    rintro e v6 ⟨rfl, hb6⟩
    rw [hadr.out]
    have hK := keep7 hb6 hK7
    clear hK7
    rcases Ce.hold_cases n k a (by omega) with ⟨e1, e2⟩ | ⟨e1, e2, e3, e4, e5, e6⟩
    · have e3 : okH n k a = false := by unfold okH; rw [e1]; rfl
      have e4 : hI n k a = 0 := by unfold hI; rw [e3]; rfl
      have e5 : isH n k a = false := by unfold isH; rw [e1]; simp
      rw [e1, e2, e3, e4, e5]
      clear hat
      go_wp2_with fail
      go_ret
      exact ⟨by first | rfl | exact ret_bool rfl | exact ret_bool (by simp), (by assumption : _ ∧ _ ∧ _ ∧ _ ∧ _ ∧ _ ∧ _ ∧ Below _ _ _).2.2.2.2.2.2.2⟩
    · have e7 : okH n k a = true := by unfold okH; simpa using e1
      have e8 : hI n k a = Ce.holdI n k a := by unfold hI; rw [e7]; rfl
      have e9 : isH n k a = (a == 512 * Ce.holdB n k a + Ce.holdI n k a * Cl.words k) := by
        unfold isH; rw [Bool.eq_iff_iff]; simp [e1]
      have hw := Cl.words_bd k
      replace e9 := Lib.hid e9
      have hat2 := Lib.hid (fun h => hat.out h)
      clear hat
      rw [e7, e8]
      rw [e8] at hK
      rcases (show isH n k a = false ∨ isH n k a = true from by cases isH n k a <;> simp) with hb9 | hb9
      · have e10 := e9.out.symm
        rw [hb9] at e10
        rw [hb9]
        clear hat2 e9
        go_wp2_with (first
          | (go_at_call 27; refine (rWords_any _ _ (by omega) (by omega)).mono ?_; rintro e v7 ⟨rfl, hb7⟩; replace hK := keep7 hb7 hK; clear hb7))
        go_ret
        exact ⟨by first | rfl | exact ret_bool rfl | exact ret_bool (by simp), (by assumption : _ ∧ _ ∧ _ ∧ _ ∧ _ ∧ _ ∧ _ ∧ Below _ _ _).2.2.2.2.2.2.2⟩
      · have e10 := e9.out.symm
        rw [hb9] at e10
        rw [hb9]
        obtain ⟨rfl, rfl⟩ := hat2.out hb9
        clear hat2 e9
        go_wp2_with (first
          | (go_at_call 27; refine (rWords_any _ _ (by omega) (by omega)).mono ?_; rintro e v7 ⟨rfl, hb7⟩; replace hK := keep7 hb7 hK; clear hb7))
        go_ret
        exact ⟨by first | rfl | exact ret_bool rfl | exact ret_bool (by simp), (by assumption : _ ∧ _ ∧ _ ∧ _ ∧ _ ∧ _ ∧ _ ∧ Below _ _ _).2.2.2.2.2.2.2⟩
  · clear hnot
    replace hadr := Lib.hid hadr
    go_wp2_with (first
      | (go_at_call 23; refine (rHold9_any _ _ _ _ (by omega) (by omega) (by omega) (by omega) (by omega) (by omega)).mono ?_; rintro e v3 ⟨rfl, hb3⟩; replace hK := keep3 hb3 hK; clear hb3)
      | (go_at_call 24; refine (cHold_any _ _ _ _ (by omega) (by omega) (by omega) (by omega) (by omega) (by omega)).mono ?_; rintro e v4 ⟨rfl, hb4⟩; replace hK := keep3 hb4 hK; clear hb4; have hz3 : v1.heap.size < v4.heap.size := cell_lt hK.2.2.1; have hz4 : w.heap.size + 1 < v4.heap.size := cell_lt hK.1))
    have hK5 := grow2_3 (.int .i64 (Ce.holdB n k a)) (.int .i64 (hI n k a)) 43 hK
    clear hK
    refine (cAt_any _ _ _ _ (by omega) (by omega) (by omega) (by omega) (by omega) (by omega)).mono ?_
    rintro e v5 ⟨x', y', rfl, hb5, hat⟩
    have hK := keep5 hb5 hK5
    clear hK5
    replace hat := Lib.hid hat
    have hz5 : v1.heap.size < v5.heap.size := cell_lt hK.2.2.1
    have hz6 : w.heap.size + 1 < v5.heap.size := cell_lt hK.1
    have hz7 : v4.heap.size < v5.heap.size := cell_lt hK.2.2.2.1
    go_wp2_with fail
    have hK7 := grow2_5 (.int .i64 x') (.int .i64 y') 43 hK
    clear hK
    refine (address_any _ _ _ _ _ (by omega) (by omega) (by omega) (by omega) (by omega) (by omega) (by omega) (by omega)).mono ?_
    rintro e v6 ⟨rfl, hb6⟩
    rw [hadr.out]
    have hK := keep7 hb6 hK7
    clear hK7
    rcases Ce.hold_cases n k a (by omega) with ⟨e1, e2⟩ | ⟨e1, e2, e3, e4, e5, e6⟩
    · have e3 : okH n k a = false := by unfold okH; rw [e1]; rfl
      have e4 : hI n k a = 0 := by unfold hI; rw [e3]; rfl
      have e5 : isH n k a = false := by unfold isH; rw [e1]; simp
      rw [e1, e2, e3, e4, e5]
      clear hat
      go_wp2_with fail
      go_ret
      exact ⟨by first | rfl | exact ret_bool rfl | exact ret_bool (by simp), (by assumption : _ ∧ _ ∧ _ ∧ _ ∧ _ ∧ _ ∧ _ ∧ Below _ _ _).2.2.2.2.2.2.2⟩
    · have e7 : okH n k a = true := by unfold okH; simpa using e1
      have e8 : hI n k a = Ce.holdI n k a := by unfold hI; rw [e7]; rfl
      have e9 : isH n k a = (a == 512 * Ce.holdB n k a + Ce.holdI n k a * Cl.words k) := by
        unfold isH; rw [Bool.eq_iff_iff]; simp [e1]
      have hw := Cl.words_bd k
      replace e9 := Lib.hid e9
      have hat2 := Lib.hid (fun h => hat.out h)
      clear hat
      rw [e7, e8]
      rw [e8] at hK
      rcases (show isH n k a = false ∨ isH n k a = true from by cases isH n k a <;> simp) with hb9 | hb9
      · have e10 := e9.out.symm
        rw [hb9] at e10
        rw [hb9]
        clear hat2 e9
        go_wp2_with (first
          | (go_at_call 27; refine (rWords_any _ _ (by omega) (by omega)).mono ?_; rintro e v7 ⟨rfl, hb7⟩; replace hK := keep7 hb7 hK; clear hb7))
        go_ret
        exact ⟨by first | rfl | exact ret_bool rfl | exact ret_bool (by simp), (by assumption : _ ∧ _ ∧ _ ∧ _ ∧ _ ∧ _ ∧ _ ∧ Below _ _ _).2.2.2.2.2.2.2⟩
      · have e10 := e9.out.symm
        rw [hb9] at e10
        rw [hb9]
        obtain ⟨rfl, rfl⟩ := hat2.out hb9
        clear hat2 e9
        go_wp2_with (first
          | (go_at_call 27; refine (rWords_any _ _ (by omega) (by omega)).mono ?_; rintro e v7 ⟨rfl, hb7⟩; replace hK := keep7 hb7 hK; clear hb7))
        go_ret
        exact ⟨by first | rfl | exact ret_bool rfl | exact ret_bool (by simp), (by assumption : _ ∧ _ ∧ _ ∧ _ ∧ _ ∧ _ ∧ _ ∧ Below _ _ _).2.2.2.2.2.2.2⟩
end Go.Proofs.Ytchobkabndnhoaa
