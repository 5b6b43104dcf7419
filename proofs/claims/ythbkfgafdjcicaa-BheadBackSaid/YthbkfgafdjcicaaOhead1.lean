/- What the functions of package ohead, and those of its reference, compute: one contract each. -/
import Derived.Test.YthbkfgafdjcicaaClass2
import Derived.Test.YthbkfgafdjcicaaCrc2
import Derived.Test.YthbkfgafdjcicaaBits1
import Derived.Test.YthbkfgafdjcicaaPOhead
import Derived.Deep.RegionHeld3
namespace Go.Proofs.Ythbkfgafdjcicaa
open Go.RowKit
set_option linter.unusedVariables false
set_option maxHeartbeats 1000000
set_option maxRecDepth 100000
theorem bcell {W w1 : World} (hb : Below W.heap.size W w1) : (∀ b o, b < W.heap.size → w1.cell? ⟨b, o, none⟩ = W.cell? ⟨b, o, none⟩) ∧ (∀ b o, b < W.heap.size → w1.frozen? ⟨b, o, none⟩ = W.frozen? ⟨b, o, none⟩) :=
  ⟨fun b o h => hb.cell (p := ⟨b, o, none⟩) h, fun b o h => hb.frozen (p := ⟨b, o, none⟩) h⟩
theorem frozen_alloc_lt (w : World) (o : Obj) (p : Addr) (h : p.block < w.heap.size) : (w.alloc o).frozen? p = w.frozen? p := ((Below.refl w.heap.size w).alloc (Nat.le_refl _) o).frozen h
theorem box2 (w : World) (p d : Value) (T : TypeId) : (w.alloc (.cells #[p, d] T)).cell? ⟨w.heap.size, 0, none⟩ = some p ∧ (w.alloc (.cells #[p, d] T)).cell? ⟨w.heap.size, 1, none⟩ = some d ∧ Below w.heap.size w (w.alloc (.cells #[p, d] T)) :=
  ⟨by rw [Joins.cell_of_block (heap_alloc_new w _)]; rfl, by rw [Joins.cell_of_block (heap_alloc_new w _)]; rfl, (Below.refl _ _).alloc (Nat.le_refl _) _⟩
theorem oSize_any (p d : Int) (w : World) (h1 : -9223372036854775808 ≤ p) (h2 : p ≤ 9223372036854775807) (h3 : -9223372036854775808 ≤ d) (h4 : d ≤ 9223372036854775807) :
    Calls Try.prog 37 #[.agg #[.int .i64 p, .int .i64 d]] w fun e w' => e = .returned (.int .i64 (Cl.size p d)) ∧ Below w.heap.size w w' := by
  rcases (show (p < 0 ∨ p > 63 ∨ d < 0 ∨ d > 16384) ∨ (0 ≤ p ∧ p ≤ 63 ∧ 0 ≤ d ∧ d ≤ 16384) from by omega) with c | ⟨c1, c2, c3, c4⟩
  · have e := Cl.size_bad p d c
    have e1 := e.1
    have e2 := e.2
    clear e c
    go_enter Try.func37, Try.ntmps37
    go_wp2_with (first
      | (go_at_call 26; refine (size_any _ _ _ (by omega) (by omega) (by omega) (by omega)).mono ?_; rintro e w' ⟨rfl, rfl⟩))
    go_ret
    exact ⟨ret_int e1.symm, by (repeat (first | exact Below.refl _ _ | (refine Below.alloc ?_ (by first | exact Nat.le_refl _ | (simp; done) | (simp; omega)) _)))⟩
  · have e := Cl.size_good p d c1 c2 c3 c4
    have e1 := Lib.hid e.1
    have e2 := e.2
    clear e
    go_enter Try.func37, Try.ntmps37
    go_wp2_with (first
      | (go_at_call 26; refine (size_any _ _ _ (by omega) (by omega) (by omega) (by omega)).mono ?_; rintro e w' ⟨rfl, rfl⟩))
    go_ret
    exact ⟨rfl, by (repeat (first | exact Below.refl _ _ | (refine Below.alloc ?_ (by first | exact Nat.le_refl _ | (simp; done) | (simp; omega)) _)))⟩
theorem rOSize_any (p d : Int) (w : World) (h1 : -9223372036854775808 ≤ p) (h2 : p ≤ 9223372036854775807) (h3 : -9223372036854775808 ≤ d) (h4 : d ≤ 9223372036854775807) :
    Calls Try.prog 38 #[.agg #[.int .i64 p, .int .i64 d]] w fun e w' => e = .returned (.int .i64 (Cl.size p d)) ∧ Below w.heap.size w w' := by
  rcases (show p < 0 ∨ (0 ≤ p ∧ 63 < p) ∨ (0 ≤ p ∧ p ≤ 63 ∧ d < 0) ∨ (0 ≤ p ∧ p ≤ 63 ∧ 0 ≤ d ∧ 16384 < d) ∨ (0 ≤ p ∧ p ≤ 63 ∧ 0 ≤ d ∧ d ≤ 16384) from by omega) with c | ⟨c1, c2⟩ | ⟨c1, c2, c3⟩ | ⟨c1, c2, c3, c4⟩ | ⟨c1, c2, c3, c4⟩
  · have e1 := Lib.hid (Cl.size_bad p d (by omega)).1
    go_enter Try.func38, Try.ntmps38
    go_wp2
    go_ret
    exact ⟨ret_int e1.out.symm, by (repeat (first | exact Below.refl _ _ | (refine Below.alloc ?_ (by first | exact Nat.le_refl _ | (simp; done) | (simp; omega)) _)))⟩
  · have e1 := Lib.hid (Cl.size_bad p d (by omega)).1
    go_enter Try.func38, Try.ntmps38
    go_wp2
    go_ret
    exact ⟨ret_int e1.out.symm, by (repeat (first | exact Below.refl _ _ | (refine Below.alloc ?_ (by first | exact Nat.le_refl _ | (simp; done) | (simp; omega)) _)))⟩
  · have e1 := Lib.hid (Cl.size_bad p d (by omega)).1
    go_enter Try.func38, Try.ntmps38
    go_wp2
    go_ret
    exact ⟨ret_int e1.out.symm, by (repeat (first | exact Below.refl _ _ | (refine Below.alloc ?_ (by first | exact Nat.le_refl _ | (simp; done) | (simp; omega)) _)))⟩
  · have e1 := Lib.hid (Cl.size_bad p d (by omega)).1
    go_enter Try.func38, Try.ntmps38
    go_wp2
    go_ret
    exact ⟨ret_int e1.out.symm, by (repeat (first | exact Below.refl _ _ | (refine Below.alloc ?_ (by first | exact Nat.le_refl _ | (simp; done) | (simp; omega)) _)))⟩
  · have e1 := Lib.hid (Cl.size_good p d c1 c2 c3 c4).1
    go_enter Try.func38, Try.ntmps38
    go_wp2
    go_ret
    exact ⟨ret_int e1.out.symm, by (repeat (first | exact Below.refl _ _ | (refine Below.alloc ?_ (by first | exact Nat.le_refl _ | (simp; done) | (simp; omega)) _)))⟩
theorem oEnc_any (p d at_ : Int) (w : World) (h1 : -9223372036854775808 ≤ p) (h2 : p ≤ 9223372036854775807) (h3 : -9223372036854775808 ≤ d) (h4 : d ≤ 9223372036854775807) (a1 : -9223372036854775808 ≤ at_) (a2 : at_ ≤ 9223372036854775807) :
    Calls Try.prog 46 #[.agg #[.int .i64 p, .int .i64 d], .int .i64 at_] w fun e w' => e = .returned (.int .u64 (Oh.enc p d at_)) ∧ Below w.heap.size w w' := by
  have hK := box2 w (.int .i64 p) (.int .i64 d) 55
  rcases (show (p < 0 ∨ p > 63 ∨ d < 0 ∨ d > 16384) ∨ (0 ≤ p ∧ p ≤ 63 ∧ 0 ≤ d ∧ d ≤ 16384) from by omega) with c | ⟨c1, c2, c3, c4⟩
  · have e := Lib.hid (Oh.enc_bad p d at_ c)
    have es := (Cl.size_bad p d c).1
    clear c
    go_enter Try.func46, Try.ntmps46
    go_wp2_with (first
      | (go_at_call 37; refine (oSize_any _ _ _ (by omega) (by omega) (by omega) (by omega)).mono ?_; rintro e w' ⟨rfl, hb'⟩; first | (replace hK := keep2 hb' hK) | (replace hK := keep2 hb' (keepA2 _ hK)) | (replace hK := keep2 hb' (keepA2 _ (keepA2 _ hK))) | (replace hK := keep2 hb' (keepD2 hK)); clear hb'))
    go_ret
    exact ⟨ret_int e.out.symm, hK.2.2⟩
  · have e := Lib.hid (Oh.enc_good p d at_ c1 c2 c3 c4)
    have es := Cl.size_good p d c1 c2 c3 c4
    have es1 := es.1
    have es2 : (1 + p + d == 0) = false := by simp; omega
    have eo := Oh.put_o p d c1 c2 c3 c4
    have eo1 := eo.1
    have eo2 := eo.2
    clear es eo
    go_enter Try.func46, Try.ntmps46
    go_wp2_with (first
      | (go_at_call 37; refine (oSize_any _ _ _ (by omega) (by omega) (by omega) (by omega)).mono ?_; rintro e w' ⟨rfl, hb'⟩; first | (replace hK := keep2 hb' hK) | (replace hK := keep2 hb' (keepA2 _ hK)) | (replace hK := keep2 hb' (keepA2 _ (keepA2 _ hK))) | (replace hK := keep2 hb' (keepD2 hK)); clear hb')
      | (go_at_call 68; refine (put_any _ _ _ _ _ (by omega) (by omega) (by omega) (by omega) (by omega) (by omega) (by omega) (by omega)).mono ?_; rintro e w' ⟨rfl, rfl⟩)
      | (go_at_call 69; refine (seal_any _ _ _ (by omega) (by omega) (by omega) (by omega)).mono ?_; rintro e w' ⟨rfl, hb'⟩; first | (replace hK := keep2 hb' hK) | (replace hK := keep2 hb' (keepA2 _ hK)) | (replace hK := keep2 hb' (keepA2 _ (keepA2 _ hK))) | (replace hK := keep2 hb' (keepD2 hK)); clear hb'))
    go_ret
    exact ⟨ret_int e.out.symm, hK.2.2⟩
theorem rOEnc_any (p d at_ : Int) (w : World) (h1 : -9223372036854775808 ≤ p) (h2 : p ≤ 9223372036854775807) (h3 : -9223372036854775808 ≤ d) (h4 : d ≤ 9223372036854775807) (a1 : -9223372036854775808 ≤ at_) (a2 : at_ ≤ 9223372036854775807) :
    Calls Try.prog 47 #[.agg #[.int .i64 p, .int .i64 d], .int .i64 at_] w fun e w' => e = .returned (.int .u64 (Oh.enc p d at_)) ∧ Below w.heap.size w w' := by
  have hK := box2 w (.int .i64 p) (.int .i64 d) 56
  rcases (show (p < 0 ∨ p > 63 ∨ d < 0 ∨ d > 16384) ∨ (0 ≤ p ∧ p ≤ 63 ∧ 0 ≤ d ∧ d ≤ 16384) from by omega) with c | ⟨c1, c2, c3, c4⟩
  · have e := Lib.hid (Oh.enc_bad p d at_ c)
    have es := (Cl.size_bad p d c).1
    clear c
    go_enter Try.func47, Try.ntmps47
    go_wp2_with (first
      | (go_at_call 38; refine (rOSize_any _ _ _ (by omega) (by omega) (by omega) (by omega)).mono ?_; rintro e w' ⟨rfl, hb'⟩; first | (replace hK := keep2 hb' hK) | (replace hK := keep2 hb' (keepA2 _ hK)) | (replace hK := keep2 hb' (keepA2 _ (keepA2 _ hK))) | (replace hK := keep2 hb' (keepD2 hK)); clear hb'))
    go_ret
    exact ⟨ret_int e.out.symm, hK.2.2⟩
  · have e := Lib.hid (Oh.enc_good p d at_ c1 c2 c3 c4)
    have es1 := (Cl.size_good p d c1 c2 c3 c4).1
    have es2 : (1 + p + d == 0) = false := by simp; omega
    go_enter Try.func47, Try.ntmps47
    go_wp2_with (first
      | (go_at_call 38; refine (rOSize_any _ _ _ (by omega) (by omega) (by omega) (by omega)).mono ?_; rintro e w' ⟨rfl, hb'⟩; first | (replace hK := keep2 hb' hK) | (replace hK := keep2 hb' (keepA2 _ hK)) | (replace hK := keep2 hb' (keepA2 _ (keepA2 _ hK))) | (replace hK := keep2 hb' (keepD2 hK)); clear hb')
      | (go_at_call 70; refine (rSeal_any _ _ _ (by omega) (by omega) (by omega) (by omega)).mono ?_; rintro e w' ⟨rfl, hb'⟩; first | (replace hK := keep2 hb' hK) | (replace hK := keep2 hb' (keepA2 _ hK)) | (replace hK := keep2 hb' (keepA2 _ (keepA2 _ hK))) | (replace hK := keep2 hb' (keepD2 hK)); clear hb'))
    go_ret
    exact ⟨ret_int e.out.symm, hK.2.2⟩
theorem ref8_any (p d : Int) (w : World) : Calls Try.prog 35 #[.agg #[.int .i64 p, .int .i64 d]] w fun e w' => e = .returned (.agg #[.int .i64 p, .int .i64 d]) ∧ Below w.heap.size w w' := by
  go_enter Try.func35, Try.ntmps35
  go_wp2
  exact bodyPost_ret (v := .agg #[.int .i64 p, .int .i64 d]) (by simp [results, go_sem, Try.results35]) rfl ⟨rfl, by (repeat (first | exact Below.refl _ _ | (refine Below.alloc ?_ (by first | exact Nat.le_refl _ | (simp; done) | (simp; omega)) _)))⟩
theorem oDec_any (at_ x : Int) (w : World) (a1 : -9223372036854775808 ≤ at_) (a2 : at_ ≤ 9223372036854775807) (h1 : 0 ≤ x) (h2 : x ≤ 18446744073709551615) :
    Calls Try.prog 44 #[.int .i64 at_, .int .u64 x] w fun e w' => e = .returned (.tuple #[.agg #[.int .i64 (Oh.decP x at_), .int .i64 (Oh.decD x at_)], .int .i64 (Oh.decE x at_)]) ∧ Below w.heap.size w w' := by
  have hr := Oh.raw_bd x
  have hg := Oh.raw_get x
  have hg1 := hg.1
  have hg2 := hg.2
  clear hg
  cases ho : Sl.openB x at_
  · have e := Oh.dec_closed x at_ ho
    rw [e.1, e.2.1, e.2.2]
    have on := Sl.openN_no x at_ ho
    clear e
    go_enter Try.func44, Try.ntmps44
    go_wp2_with fail
    refine (open_any _ _ _ (by omega) (by omega) (by omega) (by omega)).mono ?_
    rintro e w1 ⟨rfl, hb⟩
    obtain ⟨hc, hf⟩ := bcell hb
    have hz : w.heap.size < w1.heap.size := by have := hb.size; simp at this; omega
    have hB : Below w.heap.size w w1 := ((Below.refl _ _).alloc (Nat.le_refl _) _).trans (hb.mono (by simp))
    go_wp2_with (first
      | (go_at_call 66; refine (get_any _ _ _ _ (by omega) (by omega) (by omega) (by omega) (by omega) (by omega)).mono ?_; rintro e w' ⟨rfl, rfl⟩))
    exact bodyPost_ret (v := .tuple #[.agg #[.int .i64 0, .int .i64 0], .int .i64 25]) (by simp [results, go_sem, Try.results44, hc]) rfl ⟨rfl, (hB.setCell (Nat.le_refl _) _).setCell (Nat.le_refl _) _⟩
  · have on := Sl.openN_yes x at_ ho
    by_cases hq : Oh.enc (Oh.rawP x) (Oh.rawD x) at_ = x
    · have e := Oh.dec_right x at_ ho hq
      rw [e.1, e.2.1, e.2.2]
      have hq2 : (Oh.enc (Oh.rawP x) (Oh.rawD x) at_ != x) = false := by simpa using hq
      clear e hq
      go_enter Try.func44, Try.ntmps44
      go_wp2_with fail
      refine (open_any _ _ _ (by omega) (by omega) (by omega) (by omega)).mono ?_
      rintro e w1 ⟨rfl, hb⟩
      obtain ⟨hc, hf⟩ := bcell hb
      have hz : w.heap.size < w1.heap.size := by have := hb.size; simp at this; omega
      have hB : Below w.heap.size w w1 := ((Below.refl _ _).alloc (Nat.le_refl _) _).trans (hb.mono (by simp))
      go_wp2_with (first
      | (go_at_call 66; refine (get_any _ _ _ _ (by omega) (by omega) (by omega) (by omega) (by omega) (by omega)).mono ?_; rintro e w' ⟨rfl, rfl⟩))
      refine (oEnc_any _ _ _ _ (by omega) (by omega) (by omega) (by omega) (by omega) (by omega)).mono ?_
      rintro e w2 ⟨rfl, hb2⟩
      obtain ⟨hc2, hf2⟩ := bcell hb2
      have hz2 : w1.heap.size < w2.heap.size := by have := hb2.size; first | omega | (simp at this; omega)
      go_wp2_with fail
      have hB2 : Below w.heap.size w w2 := (hB.alloc (by omega) _).trans (hb2.mono (by simp; omega))
      have q0 : w2.cell? ⟨w.heap.size, 0, none⟩ = some (.int .i64 0) := by rw [hc2 _ _ (by simp; omega), World.cell?_alloc_lt _ _ _ (by simpa using hz), hc _ _ (by simp)]; simp
      have q1 : w2.cell? ⟨w.heap.size, 1, none⟩ = some (.int .i64 0) := by rw [hc2 _ _ (by simp; omega), World.cell?_alloc_lt _ _ _ (by simpa using hz), hc _ _ (by simp)]; simp
      exact bodyPost_ret (v := .tuple #[.agg #[.int .i64 (Oh.rawP x), .int .i64 (Oh.rawD x)], .int .i64 0]) (by simp [results, go_sem, Try.results44, q0, q1]) rfl ⟨rfl, (hB2.setCell (Nat.le_refl _) _).setCell (Nat.le_refl _) _⟩
    · have e := Oh.dec_other x at_ ho hq
      rw [e.1, e.2.1, e.2.2]
      have hq2 : (Oh.enc (Oh.rawP x) (Oh.rawD x) at_ != x) = true := by simpa using hq
      clear e hq
      go_enter Try.func44, Try.ntmps44
      go_wp2_with fail
      refine (open_any _ _ _ (by omega) (by omega) (by omega) (by omega)).mono ?_
      rintro e w1 ⟨rfl, hb⟩
      obtain ⟨hc, hf⟩ := bcell hb
      have hz : w.heap.size < w1.heap.size := by have := hb.size; simp at this; omega
      have hB : Below w.heap.size w w1 := ((Below.refl _ _).alloc (Nat.le_refl _) _).trans (hb.mono (by simp))
      go_wp2_with (first
      | (go_at_call 66; refine (get_any _ _ _ _ (by omega) (by omega) (by omega) (by omega) (by omega) (by omega)).mono ?_; rintro e w' ⟨rfl, rfl⟩))
      refine (oEnc_any _ _ _ _ (by omega) (by omega) (by omega) (by omega) (by omega) (by omega)).mono ?_
      rintro e w2 ⟨rfl, hb2⟩
      obtain ⟨hc2, hf2⟩ := bcell hb2
      have hz2 : w1.heap.size < w2.heap.size := by have := hb2.size; first | omega | (simp at this; omega)
      go_wp2_with fail
      have hB2 : Below w.heap.size w w2 := (hB.alloc (by omega) _).trans (hb2.mono (by simp; omega))
      have q0 : w2.cell? ⟨w.heap.size, 0, none⟩ = some (.int .i64 0) := by rw [hc2 _ _ (by simp; omega), World.cell?_alloc_lt _ _ _ (by simpa using hz), hc _ _ (by simp)]; simp
      have q1 : w2.cell? ⟨w.heap.size, 1, none⟩ = some (.int .i64 0) := by rw [hc2 _ _ (by simp; omega), World.cell?_alloc_lt _ _ _ (by simpa using hz), hc _ _ (by simp)]; simp
      exact bodyPost_ret (v := .tuple #[.agg #[.int .i64 0, .int .i64 0], .int .i64 26]) (by simp [results, go_sem, Try.results44, q0, q1]) rfl ⟨rfl, (hB2.setCell (Nat.le_refl _) _).setCell (Nat.le_refl _) _⟩
theorem rODec_any (at_ x : Int) (w : World) (a1 : -9223372036854775808 ≤ at_) (a2 : at_ ≤ 9223372036854775807) (h1 : 0 ≤ x) (h2 : x ≤ 18446744073709551615) :
    Calls Try.prog 45 #[.int .i64 at_, .int .u64 x] w fun e w' => e = .returned (.tuple #[.agg #[.int .i64 (Oh.decP x at_), .int .i64 (Oh.decD x at_)], .int .i64 (Oh.decE x at_)]) ∧ Below w.heap.size w w' := by
  have hr := Oh.raw_bd x
  have hg1 : x % 4294967296 / 256 % 64 = Oh.rawP x := rfl
  have hg2 : x % 4294967296 / 16384 % 32768 = Oh.rawD x := rfl
  cases ho : Sl.openB x at_
  · have e := Oh.dec_closed x at_ ho
    rw [e.1, e.2.1, e.2.2]
    have on := Sl.openN_no x at_ ho
    clear e
    go_enter Try.func45, Try.ntmps45
    go_wp2_with fail
    refine (rOpen_any _ _ _ (by omega) (by omega) (by omega) (by omega)).mono ?_
    rintro e w1 ⟨rfl, hb⟩
    obtain ⟨hc, hf⟩ := bcell hb
    have hz : w.heap.size < w1.heap.size := by have := hb.size; simp at this; omega
    have hB : Below w.heap.size w w1 := ((Below.refl _ _).alloc (Nat.le_refl _) _).trans (hb.mono (by simp))
    go_wp2_with fail
    exact bodyPost_ret (v := .tuple #[.agg #[.int .i64 0, .int .i64 0], .int .i64 25]) (by simp [results, go_sem, Try.results45, hc]) rfl ⟨rfl, (hB.setCell (Nat.le_refl _) _).setCell (Nat.le_refl _) _⟩
  · have on := Sl.openN_yes x at_ ho
    by_cases hs : Cl.size (Oh.rawP x) (Oh.rawD x) = 0
    · have e := Oh.dec_other x at_ ho (Oh.dec_none x at_ hs h1)
      rw [e.1, e.2.1, e.2.2]
      clear e
      go_enter Try.func45, Try.ntmps45
      go_wp2_with fail
      refine (rOpen_any _ _ _ (by omega) (by omega) (by omega) (by omega)).mono ?_
      rintro e w1 ⟨rfl, hb⟩
      obtain ⟨hc, hf⟩ := bcell hb
      have hz : w.heap.size < w1.heap.size := by have := hb.size; simp at this; omega
      have hB : Below w.heap.size w w1 := ((Below.refl _ _).alloc (Nat.le_refl _) _).trans (hb.mono (by simp))
      go_wp2_with fail
      refine (rOSize_any _ _ _ (by omega) (by omega) (by omega) (by omega)).mono ?_
      rintro e w2 ⟨rfl, hb2⟩
      obtain ⟨hc2, hf2⟩ := bcell hb2
      have hz2 : w1.heap.size < w2.heap.size := by have := hb2.size; first | omega | (simp at this; omega)
      have q0 : w2.cell? ⟨w.heap.size, 0, none⟩ = some (.int .i64 0) := by rw [hc2 _ _ (by simp; omega), World.cell?_alloc_lt _ _ _ (by simpa using hz), hc _ _ (by simp)]; simp
      have q1 : w2.cell? ⟨w.heap.size, 1, none⟩ = some (.int .i64 0) := by rw [hc2 _ _ (by simp; omega), World.cell?_alloc_lt _ _ _ (by simpa using hz), hc _ _ (by simp)]; simp
      have r0 : w2.cell? ⟨w1.heap.size, 0, none⟩ = some (.int .i64 (Oh.rawP x)) := by rw [hc2 _ _ (by simp)]; simp
      have r1 : w2.cell? ⟨w1.heap.size, 1, none⟩ = some (.int .i64 (Oh.rawD x)) := by rw [hc2 _ _ (by simp)]; simp
      have f0 : ∀ o, w2.frozen? ⟨w.heap.size, o, none⟩ = false := fun o => by rw [hf2 _ _ (by simp; omega), frozen_alloc_lt _ _ _ (by simpa using hz), hf _ _ (by simp)]; simp
      clear hc hf hc2 hf2
      go_wp2_with fail
      have hB2 : Below w.heap.size w w2 := (hB.alloc (by omega) _).trans (hb2.mono (by simp; omega))
      exact bodyPost_ret (v := .tuple #[.agg #[.int .i64 0, .int .i64 0], .int .i64 26]) (by simp [results, go_sem, Try.results45, q0, q1]) rfl ⟨rfl, (hB2.setCell (Nat.le_refl _) _).setCell (Nat.le_refl _) _⟩
    · have hs2 : (Cl.size (Oh.rawP x) (Oh.rawD x) == 0) = false := by simpa using hs
      clear hs
      by_cases hq : Oh.enc (Oh.rawP x) (Oh.rawD x) at_ = x
      · have e := Oh.dec_right x at_ ho hq
        rw [e.1, e.2.1, e.2.2]
        have hq2 : (Oh.enc (Oh.rawP x) (Oh.rawD x) at_ != x) = false := by simpa using hq
        clear e hq
        go_enter Try.func45, Try.ntmps45
        go_wp2_with fail
        refine (rOpen_any _ _ _ (by omega) (by omega) (by omega) (by omega)).mono ?_
        rintro e w1 ⟨rfl, hb⟩
        obtain ⟨hc, hf⟩ := bcell hb
        have hz : w.heap.size < w1.heap.size := by have := hb.size; simp at this; omega
        have hB : Below w.heap.size w w1 := ((Below.refl _ _).alloc (Nat.le_refl _) _).trans (hb.mono (by simp))
        go_wp2_with fail
        refine (rOSize_any _ _ _ (by omega) (by omega) (by omega) (by omega)).mono ?_
        rintro e w2 ⟨rfl, hb2⟩
        obtain ⟨hc2, hf2⟩ := bcell hb2
        have hz2 : w1.heap.size < w2.heap.size := by have := hb2.size; first | omega | (simp at this; omega)
        have q0 : w2.cell? ⟨w.heap.size, 0, none⟩ = some (.int .i64 0) := by rw [hc2 _ _ (by simp; omega), World.cell?_alloc_lt _ _ _ (by simpa using hz), hc _ _ (by simp)]; simp
        have q1 : w2.cell? ⟨w.heap.size, 1, none⟩ = some (.int .i64 0) := by rw [hc2 _ _ (by simp; omega), World.cell?_alloc_lt _ _ _ (by simpa using hz), hc _ _ (by simp)]; simp
        have r0 : w2.cell? ⟨w1.heap.size, 0, none⟩ = some (.int .i64 (Oh.rawP x)) := by rw [hc2 _ _ (by simp)]; simp
        have r1 : w2.cell? ⟨w1.heap.size, 1, none⟩ = some (.int .i64 (Oh.rawD x)) := by rw [hc2 _ _ (by simp)]; simp
        have f0 : ∀ o, w2.frozen? ⟨w.heap.size, o, none⟩ = false := fun o => by rw [hf2 _ _ (by simp; omega), frozen_alloc_lt _ _ _ (by simpa using hz), hf _ _ (by simp)]; simp
        clear hc hf hc2 hf2
        go_wp2_with fail
        have hB2 : Below w.heap.size w w2 := (hB.alloc (by omega) _).trans (hb2.mono (by simp; omega))
        refine (rOEnc_any _ _ _ _ (by omega) (by omega) (by omega) (by omega) (by omega) (by omega)).mono ?_
        rintro e w3 ⟨rfl, hb3⟩
        obtain ⟨hc3, hf3⟩ := bcell hb3
        have hz3 : w1.heap.size < w3.heap.size := by have := hb3.size; first | omega | (simp at this; omega)
        have q30 := (hc3 w.heap.size 0 (by omega)).trans q0
        have q31 := (hc3 w.heap.size 1 (by omega)).trans q1
        have r30 := (hc3 w1.heap.size 0 (by omega)).trans r0
        have r31 := (hc3 w1.heap.size 1 (by omega)).trans r1
        have f30 : ∀ o, w3.frozen? ⟨w.heap.size, o, none⟩ = false := fun o => (hf3 w.heap.size o (by omega)).trans (f0 o)
        clear hc3 hf3
        go_wp2_with fail
        have hB3 : Below w.heap.size w w3 := hB2.trans (hb3.mono (by have := hb2.size; simp at this; omega))
        exact bodyPost_ret (v := .tuple #[.agg #[.int .i64 (Oh.rawP x), .int .i64 (Oh.rawD x)], .int .i64 0]) (by simp [results, go_sem, Try.results45, q30, q31]) rfl ⟨rfl, (hB3.setCell (Nat.le_refl _) _).setCell (Nat.le_refl _) _⟩
      · have e := Oh.dec_other x at_ ho hq
        rw [e.1, e.2.1, e.2.2]
        have hq2 : (Oh.enc (Oh.rawP x) (Oh.rawD x) at_ != x) = true := by simpa using hq
        clear e hq
        go_enter Try.func45, Try.ntmps45
        go_wp2_with fail
        refine (rOpen_any _ _ _ (by omega) (by omega) (by omega) (by omega)).mono ?_
        rintro e w1 ⟨rfl, hb⟩
        obtain ⟨hc, hf⟩ := bcell hb
        have hz : w.heap.size < w1.heap.size := by have := hb.size; simp at this; omega
        have hB : Below w.heap.size w w1 := ((Below.refl _ _).alloc (Nat.le_refl _) _).trans (hb.mono (by simp))
        go_wp2_with fail
        refine (rOSize_any _ _ _ (by omega) (by omega) (by omega) (by omega)).mono ?_
        rintro e w2 ⟨rfl, hb2⟩
        obtain ⟨hc2, hf2⟩ := bcell hb2
        have hz2 : w1.heap.size < w2.heap.size := by have := hb2.size; first | omega | (simp at this; omega)
        have q0 : w2.cell? ⟨w.heap.size, 0, none⟩ = some (.int .i64 0) := by rw [hc2 _ _ (by simp; omega), World.cell?_alloc_lt _ _ _ (by simpa using hz), hc _ _ (by simp)]; simp
        have q1 : w2.cell? ⟨w.heap.size, 1, none⟩ = some (.int .i64 0) := by rw [hc2 _ _ (by simp; omega), World.cell?_alloc_lt _ _ _ (by simpa using hz), hc _ _ (by simp)]; simp
        have r0 : w2.cell? ⟨w1.heap.size, 0, none⟩ = some (.int .i64 (Oh.rawP x)) := by rw [hc2 _ _ (by simp)]; simp
        have r1 : w2.cell? ⟨w1.heap.size, 1, none⟩ = some (.int .i64 (Oh.rawD x)) := by rw [hc2 _ _ (by simp)]; simp
        have f0 : ∀ o, w2.frozen? ⟨w.heap.size, o, none⟩ = false := fun o => by rw [hf2 _ _ (by simp; omega), frozen_alloc_lt _ _ _ (by simpa using hz), hf _ _ (by simp)]; simp
        clear hc hf hc2 hf2
        go_wp2_with fail
        have hB2 : Below w.heap.size w w2 := (hB.alloc (by omega) _).trans (hb2.mono (by simp; omega))
        refine (rOEnc_any _ _ _ _ (by omega) (by omega) (by omega) (by omega) (by omega) (by omega)).mono ?_
        rintro e w3 ⟨rfl, hb3⟩
        obtain ⟨hc3, hf3⟩ := bcell hb3
        have hz3 : w1.heap.size < w3.heap.size := by have := hb3.size; first | omega | (simp at this; omega)
        have q30 := (hc3 w.heap.size 0 (by omega)).trans q0
        have q31 := (hc3 w.heap.size 1 (by omega)).trans q1
        have r30 := (hc3 w1.heap.size 0 (by omega)).trans r0
        have r31 := (hc3 w1.heap.size 1 (by omega)).trans r1
        have f30 : ∀ o, w3.frozen? ⟨w.heap.size, o, none⟩ = false := fun o => (hf3 w.heap.size o (by omega)).trans (f0 o)
        clear hc3 hf3
        go_wp2_with fail
        have hB3 : Below w.heap.size w w3 := hB2.trans (hb3.mono (by have := hb2.size; simp at this; omega))
        exact bodyPost_ret (v := .tuple #[.agg #[.int .i64 0, .int .i64 0], .int .i64 26]) (by simp [results, go_sem, Try.results45, q30, q31]) rfl ⟨rfl, (hB3.setCell (Nat.le_refl _) _).setCell (Nat.le_refl _) _⟩
end Go.Proofs.Ythbkfgafdjcicaa
