/-
  LedgerPlays: for every input the Go function answers true, and its arguments read afterwards as they read before. No condition.
-/
import Derived.Test.YtpbimgopiammaaaKLedgerPlaysd
set_option linter.unusedSimpArgs false
set_option linter.unusedVariables false
set_option linter.unusedSectionVars false
section
namespace Go.Proofs.Ytpbimgopiammaaa
open Go.RowKit
set_option maxRecDepth 100000
set_option maxHeartbeats 8000000
theorem awake49 (w : World) : Calls Try.prog 8 [].toArray w fun e w' => e = .returned (.bool true) ∧ Only [] w w' := by
 have H := Heap.nil w
 have hok := ldNew_ok [10] (by intro x hx; simp at hx; subst hx; unfold wfI; omega)
 have hok1 := hok.take 0 600 6 (by unfold wfI; omega)
 have e1 : ((ldNew [10]).take 0 600 6).2 = 0 := by
  kernel_rfl
 have e2 : (((ldNew [10]).take 0 600 6).1.take 0 700 5).2 = 4 := by
  kernel_rfl
 have hT1 := fun {p b} {W : World} hE => oTake p b (ldNew [10]) 0 0 600 6 W hE hok (by omega) (by unfold wfI; omega)
 have hT2 := fun {p b} {W : World} hE => oTake p b ((ldNew [10]).take 0 600 6).1 1 0 700 5 W hE hok1 (by omega) (by unfold wfI; omega)
 rw [e1] at hT1
 rw [e2] at hT2
 refine k_in (N := 16) Try.func8 rfl rfl rfl ?_
 refine k_sg ?_
 refine s_run rfl rfl (rab rfl) ?_
 refine k_nc ?_
 refine k_sg ?_
 refine s_bsO (enc := (Value.int .i64)) (zs := [10]) H rfl rfl rfl (by omega) (by kernel_rfl) Try.underlying22 inf3 ?_
 intro q2 _ H'; clear H; have H := H'; clear H'
 have hS := H.own_sees 0 rfl
 have hN := oNewL _ 1 1 [10] _ hS rfl (by omega)
 refine s_call rfl (hN) (ca9 rfl) ?_
 rintro e W1 ⟨p, b, rfl, H'⟩
 refine ⟨_, rfl, ?_⟩
 have H := H.more (A := [grp _]) (grp_heap H'); clear H'; simp only [List.cons_append, List.nil_append] at H
 refine s_run rfl rfl (rap rfl) ?_
 refine k_nc ?_
 refine k_sg ?_
 refine s_run rfl rfl (rmp rfl) ?_
 refine s_run rfl rfl (r_ptnnilT rfl rfl Try.underlying26) ?_
 refine s_run rfl rfl (rmb rfl) ?_
 refine s_run rfl (g_on 6 (by kernel_rfl) rfl) (rmp rfl) ?_
 refine s_call (g_on 6 (by kernel_rfl) rfl) (hT1 (H.grp_ents 0 rfl)) (ca16 rfl) ?_
 rintro e W1 ⟨rfl, H'⟩
 refine ⟨_, rfl, ?_⟩
 have H := H.grp_at 0 rfl H'; clear H'; simp only [List.set_cons_zero] at H
 refine s_run rfl (g_on 6 (by kernel_rfl) rfl) (r_eqlT rfl rfl (by omega)) ?_
 refine s_run rfl rfl (r_pkT (v := .bool _) rfl rfl) ?_
 refine s_run rfl rfl (rmb rfl) ?_
 refine s_run rfl (g_on 11 (by kernel_rfl) rfl) (rmp rfl) ?_
 refine s_call (g_on 11 (by kernel_rfl) rfl) (hT2 (H.grp_ents 0 rfl)) (ca16 rfl) ?_
 rintro e W1 ⟨rfl, H'⟩
 refine ⟨_, rfl, ?_⟩
 have H := H.grp_at 0 rfl H'; clear H'; simp only [List.set_cons_zero] at H
 refine s_run rfl (g_on 11 (by kernel_rfl) rfl) (r_eqlT rfl rfl (by omega)) ?_
 refine s_run rfl rfl (r_pkT (v := .bool _) rfl rfl) ?_
 refine s_run rfl rfl (rab rfl) ?_
 refine k_nc ?_
 refine k_ret ?_
 refine fin1r (v := .bool _) rfl rfl ?_
 exact ⟨rfl, H.only⟩
theorem atsOf_out {N : Nat} {s : LdS} (h : LdOk N s) {m : Int} (hm : m < 0 ∨ 4 ≤ m) : atsOf s.L m = [] := by
 unfold atsOf
 rw [List.map_eq_nil_iff]
 refine List.filter_eq_nil_iff.2 fun x hx => ?_
 have := h.key x hx
 simp
 omega
def totTo (s : LdS) (m : Int) : Int := (if 0 < m then s.h 0 else 0) + (if 1 < m then s.h 1 else 0) + (if 2 < m then s.h 2 else 0) + (if 3 < m then s.h 3 else 0)
theorem totTo_out {s : LdS} {m : Int} (hm : m < 0 ∨ 4 ≤ m) : totTo s (m + 1) = totTo s m := by
 unfold totTo
 rcases hm with h | h
 ·rw [if_neg (by omega), if_neg (by omega), if_neg (by omega), if_neg (by omega), if_neg (by omega), if_neg (by omega), if_neg (by omega), if_neg (by omega)]
 ·rw [if_pos (by omega), if_pos (by omega), if_pos (by omega), if_pos (by omega), if_pos (by omega), if_pos (by omega), if_pos (by omega), if_pos (by omega)]
theorem totTo_in {s : LdS} {k : Nat} (hk : k < 4) : totTo s ((k : Int) + 1) = totTo s k + s.h k := by
 unfold totTo
 rcases (by omega : k = 0 ∨ k = 1 ∨ k = 2 ∨ k = 3) with rfl | rfl | rfl | rfl
 ·simp
 ·simp
 ·simp
 ·simp
theorem totTo_bd {N : Nat} {s : LdS} (h : LdOk N s) (m : Int) : 0 ≤ totTo s m ∧ totTo s m ≤ 4 * (N * 1048576) := by
 have b0 := h.bd 0 (by omega) (by omega)
 have b1 := h.bd 1 (by omega) (by omega)
 have b2 := h.bd 2 (by omega) (by omega)
 have b3 := h.bd 3 (by omega) (by omega)
 unfold totTo
 split <;> split <;> split <;> split <;> omega
theorem lShows (p b : Nat) (s : LdS) (N : Nat) (A : Option Addr) (n c : Nat) (w : World) (hE : Ents (ldE p b s) w) (hD : DocOk [] w A n c s) (hok : LdOk N s) (hN : N ≤ 900) :
  Calls Try.prog 31 [ptrL p, docV A n c s].toArray w fun e w' => e = .returned (.bool true) ∧ Only [] w w' := by
 have HR := Heap.start hE
 have H := Heap.nil w
 have hEl := fun {W : World} (h : Only [] w W) => (HR.same h).ents
 have hLn := hok.len
 have hDl := hD.len
 have hk2 : ∀ x ∈ s.L, 1 ≤ x.2 ∧ x.2 ≤ 1048576 := fun x hx => ⟨(hok.key x hx).2.2.1, (hok.key x hx).2.2.2.1⟩
 have oH := fun {W : World} (h : Only [] w W) m => oHeld p b s m W (hEl h)
 have oP := fun {W : World} (h : Only [] w W) m => oPeak p b s m W (hEl h)
 have oT := fun {W : World} (h : Only [] w W) m => oTaken p b s m W (hEl h)
 have oR := fun {W : World} (h : Only [] w W) m => oRoom p b s N m W (hEl h) hok (by omega)
 have oA := fun {W : World} (h : Only [] w W) m => oAllL p b s m W (hEl h) (by omega)
 have oTt := fun {W : World} (h : Only [] w W) => oTotal p b s N W (hEl h) hok (by omega)
 have dH := fun {W : World} (h : Only [] w W) m => rHeld (c := c) (q := s.q) (pk := s.pk) (tk := s.tk) (hD.later h (by simp)).sees hD.len (by omega) hk2 m
 have dA := fun {W : World} (h : Only [] w W) m => rAll (F := []) (hD.later h (by simp)) (by simp) hok (by omega) m
 have hIn := fun {A2 B2 c2 d2} (l : List Int) {W : World} h1 h2 h3 => rIntsT A2 B2 l.length c2 d2 l W h1 h2 rfl h3
 unfold docV at dA ⊢
 refine k_in (N := 136) Try.func31 rfl rfl rfl ?_
 refine k_sg ?_
 refine s_box H rfl rfl ?_
 intro p3 _ H'; clear H; have H := H'; clear H'
 refine s_run rfl rfl (rab rfl) ?_
 refine k_nc ?_
 refine k_sg ?_
 refine s_run rfl rfl (rai rfl) ?_
 refine k_nc ?_
 refine k_seq ?_
 refine k_sg ?_
 refine s_run rfl rfl (rai rfl) ?_
 refine k_nc ?_
 refine k_b ?_
 refine k_loop (fun z f W => ∃ (i : Nat) (m : Int), i ≤ 6 ∧ m = (i : Int) - 1 ∧ z = 6 - i ∧ f 0 = ptrL p ∧ f 3 = ptrL p3 ∧ f 5 = .int .i64 (totTo s m) ∧ f 6 = .int .i64 m ∧ Heap w [] [blk p3 (docC A n c s.q s.pk s.tk) 31] W) 6 ⟨0, -1, by omega, by omega, rfl, rfl, rfl, rfl, rfl, H⟩ ?_
 clear H
 rintro z f W ⟨i, m, hi, hm, rfl, f0, f3, f5, f6, H⟩
 have htb := totTo_bd hok m
 obtain ⟨f, rfl⟩ := live4 f0 f3 f5 f6
 clear f0 f3 f5 f6
 by_cases hlt : i < 6
 ·by_cases hout : m < 0 ∨ 4 ≤ m
  ·have hto := totTo_out (s := s) hout
   have oH := fun {W : World} h => oH (W := W) h m
   have oP := fun {W : World} h => oP (W := W) h m
   have oT := fun {W : World} h => oT (W := W) h m
   have oR := fun {W : World} h => oR (W := W) h m
   have oA := fun {W : World} h => oA (W := W) h m
   have g0 : ∀ g : Int → Int, getM g m = 0 := fun g => by unfold getM; rw [if_neg (by omega)]
   have g1 : s.room m = -1 := by unfold LdS.room; rw [if_neg (by omega)]
   rw [g0] at oH oP oT
   rw [g1] at oR
   rw [atsOf_out hok hout] at oA
   simp only [List.length_nil] at oA
   by_cases hneg : m < 0
   ·skip
    refine k_seq ?_
    refine k_sg ?_
    refine s_run rfl rfl (rmi rfl) ?_
    refine s_run rfl rfl (r_lssT rfl rfl (by omega)) ?_
    refine k_nc ?_
    refine k_t rfl ?_
    refine k_skip ?_
    refine c_norm ?_
    refine k_seq ?_
    refine k_b ?_
    refine k_seq ?_
    refine k_sg ?_
    refine s_run rfl rfl (rmi rfl) ?_
    refine s_run rfl rfl (r_lssT rfl rfl (by omega)) ?_
    refine s_run rfl rfl (rmb rfl) ?_
    refine s_off rfl (g_off 15 (by kernel_rfl) rfl rfl) ?_
    refine s_off rfl (g_off 15 (by kernel_rfl) rfl rfl) ?_
    refine s_run rfl rfl (r_pkT (v := .bool _) rfl rfl) ?_
    refine k_nc ?_
    refine k_t rfl ?_
    refine k_seq ?_
    refine k_sg ?_
    refine s_run rfl rfl (rmp rfl) ?_
    refine s_run rfl rfl (rmi rfl) ?_
    refine s_call rfl (oH H.only) (ca12 rfl) ?_
    rintro e W1 ⟨rfl, H'⟩
    refine ⟨_, rfl, ?_⟩
    have H := H.same H'; clear H'
    refine s_run rfl rfl (r_neqF rfl rfl (by omega)) ?_
    refine s_run rfl rfl (rmb rfl) ?_
    refine s_run rfl (g_on 23 (by kernel_rfl) rfl) (rmp rfl) ?_
    refine s_run rfl (g_on 23 (by kernel_rfl) rfl) (rmi rfl) ?_
    refine s_call (g_on 23 (by kernel_rfl) rfl) (oP H.only) (ca49 rfl) ?_
    rintro e W1 ⟨rfl, H'⟩
    refine ⟨_, rfl, ?_⟩
    have H := H.same H'; clear H'
    refine s_run rfl (g_on 23 (by kernel_rfl) rfl) (r_neqF rfl rfl (by omega)) ?_
    refine s_run rfl rfl (r_pkF (v := .bool _) rfl rfl) ?_
    refine s_run rfl rfl (rmb rfl) ?_
    refine s_run rfl (g_on 29 (by kernel_rfl) rfl) (rmp rfl) ?_
    refine s_run rfl (g_on 29 (by kernel_rfl) rfl) (rmi rfl) ?_
    refine s_call (g_on 29 (by kernel_rfl) rfl) (oT H.only) (ca50 rfl) ?_
    rintro e W1 ⟨rfl, H'⟩
    refine ⟨_, rfl, ?_⟩
    have H := H.same H'; clear H'
    refine s_run rfl (g_on 29 (by kernel_rfl) rfl) (r_neqF rfl rfl (by omega)) ?_
    refine s_run rfl rfl (r_pkF (v := .bool _) rfl rfl) ?_
    refine s_run rfl rfl (rmb rfl) ?_
    refine s_run rfl (g_on 35 (by kernel_rfl) rfl) (rmp rfl) ?_
    refine s_run rfl (g_on 35 (by kernel_rfl) rfl) (rmi rfl) ?_
    refine s_call (g_on 35 (by kernel_rfl) rfl) (oR H.only) (ca51 rfl) ?_
    rintro e W1 ⟨rfl, H'⟩
    refine ⟨_, rfl, ?_⟩
    have H := H.same H'; clear H'
    refine s_run rfl (g_on 35 (by kernel_rfl) rfl) (r_neqF rfl rfl (by omega)) ?_
    refine s_run rfl rfl (r_pkF (v := .bool _) rfl rfl) ?_
    refine s_run rfl rfl (rmb rfl) ?_
    refine s_run rfl (g_on 41 (by kernel_rfl) rfl) (rmp rfl) ?_
    refine s_run rfl (g_on 41 (by kernel_rfl) rfl) (rmi rfl) ?_
    refine s_call (g_on 41 (by kernel_rfl) rfl) (oA H.only) (ca52 rfl) ?_
    rintro e W1 ⟨PA, pc, rfl, H'⟩
    refine ⟨_, rfl, ?_⟩
    have H := H.same H'.only; clear H'
    refine s_run rfl (g_on 41 (by kernel_rfl) rfl) (r_len rfl Try.underlying22) ?_
    refine s_run rfl (g_on 41 (by kernel_rfl) rfl) (r_neqF rfl rfl (by omega)) ?_
    refine s_run rfl rfl (r_pkF (v := .bool _) rfl rfl) ?_
    refine k_nc ?_
    refine k_f rfl ?_
    refine k_skip ?_
    refine c_norm ?_
    refine k_exit ?_
    refine c_exit ?_
    refine b_hit ?_
    refine c_norm ?_
    refine k_rg ?_
    refine s_run rfl rfl (rmi rfl) ?_
    refine s_run rfl rfl (r_add rfl rfl (wI (by omega))) ?_
    refine s_run rfl rfl (rai rfl) ?_
    refine k_nil ?_
    refine c_round ?_
    refine ⟨_, _, ?_, rfl, i + 1, m + 1, by omega, by omega, rfl, rfl, rfl, by rw [hto]; rfl, rfl, H⟩
    omega
   ·skip
    refine k_seq ?_
    refine k_sg ?_
    refine s_run rfl rfl (rmi rfl) ?_
    refine s_run rfl rfl (r_lssT rfl rfl (by omega)) ?_
    refine k_nc ?_
    refine k_t rfl ?_
    refine k_skip ?_
    refine c_norm ?_
    refine k_seq ?_
    refine k_b ?_
    refine k_seq ?_
    refine k_sg ?_
    refine s_run rfl rfl (rmi rfl) ?_
    refine s_run rfl rfl (r_lssF rfl rfl (by omega)) ?_
    refine s_run rfl rfl (rmb rfl) ?_
    refine s_run rfl (g_on 15 (by kernel_rfl) rfl) (rmi rfl) ?_
    refine s_run rfl (g_on 15 (by kernel_rfl) rfl) (r_gtrT rfl rfl (by omega)) ?_
    refine s_run rfl rfl (r_pkF (v := .bool _) rfl rfl) ?_
    refine k_nc ?_
    refine k_t rfl ?_
    refine k_seq ?_
    refine k_sg ?_
    refine s_run rfl rfl (rmp rfl) ?_
    refine s_run rfl rfl (rmi rfl) ?_
    refine s_call rfl (oH H.only) (ca12 rfl) ?_
    rintro e W1 ⟨rfl, H'⟩
    refine ⟨_, rfl, ?_⟩
    have H := H.same H'; clear H'
    refine s_run rfl rfl (r_neqF rfl rfl (by omega)) ?_
    refine s_run rfl rfl (rmb rfl) ?_
    refine s_run rfl (g_on 23 (by kernel_rfl) rfl) (rmp rfl) ?_
    refine s_run rfl (g_on 23 (by kernel_rfl) rfl) (rmi rfl) ?_
    refine s_call (g_on 23 (by kernel_rfl) rfl) (oP H.only) (ca49 rfl) ?_
    rintro e W1 ⟨rfl, H'⟩
    refine ⟨_, rfl, ?_⟩
    have H := H.same H'; clear H'
    refine s_run rfl (g_on 23 (by kernel_rfl) rfl) (r_neqF rfl rfl (by omega)) ?_
    refine s_run rfl rfl (r_pkF (v := .bool _) rfl rfl) ?_
    refine s_run rfl rfl (rmb rfl) ?_
    refine s_run rfl (g_on 29 (by kernel_rfl) rfl) (rmp rfl) ?_
    refine s_run rfl (g_on 29 (by kernel_rfl) rfl) (rmi rfl) ?_
    refine s_call (g_on 29 (by kernel_rfl) rfl) (oT H.only) (ca50 rfl) ?_
    rintro e W1 ⟨rfl, H'⟩
    refine ⟨_, rfl, ?_⟩
    have H := H.same H'; clear H'
    refine s_run rfl (g_on 29 (by kernel_rfl) rfl) (r_neqF rfl rfl (by omega)) ?_
    refine s_run rfl rfl (r_pkF (v := .bool _) rfl rfl) ?_
    refine s_run rfl rfl (rmb rfl) ?_
    refine s_run rfl (g_on 35 (by kernel_rfl) rfl) (rmp rfl) ?_
    refine s_run rfl (g_on 35 (by kernel_rfl) rfl) (rmi rfl) ?_
    refine s_call (g_on 35 (by kernel_rfl) rfl) (oR H.only) (ca51 rfl) ?_
    rintro e W1 ⟨rfl, H'⟩
    refine ⟨_, rfl, ?_⟩
    have H := H.same H'; clear H'
    refine s_run rfl (g_on 35 (by kernel_rfl) rfl) (r_neqF rfl rfl (by omega)) ?_
    refine s_run rfl rfl (r_pkF (v := .bool _) rfl rfl) ?_
    refine s_run rfl rfl (rmb rfl) ?_
    refine s_run rfl (g_on 41 (by kernel_rfl) rfl) (rmp rfl) ?_
    refine s_run rfl (g_on 41 (by kernel_rfl) rfl) (rmi rfl) ?_
    refine s_call (g_on 41 (by kernel_rfl) rfl) (oA H.only) (ca52 rfl) ?_
    rintro e W1 ⟨PA, pc, rfl, H'⟩
    refine ⟨_, rfl, ?_⟩
    have H := H.same H'.only; clear H'
    refine s_run rfl (g_on 41 (by kernel_rfl) rfl) (r_len rfl Try.underlying22) ?_
    refine s_run rfl (g_on 41 (by kernel_rfl) rfl) (r_neqF rfl rfl (by omega)) ?_
    refine s_run rfl rfl (r_pkF (v := .bool _) rfl rfl) ?_
    refine k_nc ?_
    refine k_f rfl ?_
    refine k_skip ?_
    refine c_norm ?_
    refine k_exit ?_
    refine c_exit ?_
    refine b_hit ?_
    refine c_norm ?_
    refine k_rg ?_
    refine s_run rfl rfl (rmi rfl) ?_
    refine s_run rfl rfl (r_add rfl rfl (wI (by omega))) ?_
    refine s_run rfl rfl (rai rfl) ?_
    refine k_nil ?_
    refine c_round ?_
    refine ⟨_, _, ?_, rfl, i + 1, m + 1, by omega, by omega, rfl, rfl, rfl, by rw [hto]; rfl, rfl, H⟩
    omega
  ·obtain ⟨k, hkm⟩ := Int.eq_ofNat_of_zero_le (show 0 ≤ m by omega)
   have hkm : m = (k : Int) := hkm
   subst hkm
   have hk : k < 4 := by omega
   have hto := totTo_in (s := s) hk
   have hbk := hok.bd k (by omega) (by omega)
   have hhk := hok.h k (by omega) (by omega)
   obtain ⟨hq1, hq2, hq3⟩ := hok.q k (by omega) (by omega)
   have oH := fun {W : World} h => oH (W := W) h k
   have oP := fun {W : World} h => oP (W := W) h k
   have oT := fun {W : World} h => oT (W := W) h k
   have oR := fun {W : World} h => oR (W := W) h k
   have oA := fun {W : World} h => oA (W := W) h k
   have dH := fun {W : World} h => dH (W := W) h k
   have dA := fun {W : World} h => dA (W := W) h k
   have g0 : ∀ g : Int → Int, getM g k = g k := fun g => by unfold getM; rw [if_pos (by omega)]
   rw [g0] at oH oP oT
   rw [← hhk] at dH
   have hal := atsOf_len s.L k
   have hsl := srt_len (atsOf s.L k)
   have hIn := fun {A2 B2 c2 d2} {W : World} h1 h2 => hIn (A2 := A2) (B2 := B2) (c2 := c2) (d2 := d2) (srt (atsOf s.L k)) (W := W) h1 h2 (by omega)
   rw [hsl] at hIn
   by_cases hq : 0 ≤ s.q k
   ·have g1 : s.room k = s.q k - s.h k := by unfold LdS.room; rw [if_pos ⟨by omega, by omega, hq⟩]
    obtain ⟨hq4, hq5⟩ := hq3 hq
    rw [g1] at oR
    refine k_seq ?_
    refine k_sg ?_
    refine s_run rfl rfl (rmi rfl) ?_
    refine s_run rfl rfl (r_lssT rfl rfl (by omega)) ?_
    refine k_nc ?_
    refine k_t rfl ?_
    refine k_skip ?_
    refine c_norm ?_
    refine k_seq ?_
    refine k_b ?_
    refine k_seq ?_
    refine k_sg ?_
    refine s_run rfl rfl (rmi rfl) ?_
    refine s_run rfl rfl (r_lssF rfl rfl (by omega)) ?_
    refine s_run rfl rfl (rmb rfl) ?_
    refine s_run rfl (g_on 15 (by kernel_rfl) rfl) (rmi rfl) ?_
    refine s_run rfl (g_on 15 (by kernel_rfl) rfl) (r_gtrF rfl rfl (by omega)) ?_
    refine s_run rfl rfl (r_pkF (v := .bool _) rfl rfl) ?_
    refine k_nc ?_
    refine k_f rfl ?_
    refine k_skip ?_
    refine c_norm ?_
    refine k_sg ?_
    refine s_run rfl rfl (r_la H 0 rfl rfl rfl ag31 sz31) ?_
    refine s_run rfl rfl (rmi rfl) ?_
    refine s_call rfl (dH H.only) (ca53 rfl) ?_
    rintro e W1 ⟨rfl, H'⟩
    refine ⟨_, rfl, ?_⟩
    have H := H.same H'; clear H'
    refine s_run rfl rfl (rai rfl) ?_
    refine k_nc ?_
    refine k_sg ?_
    refine s_run rfl rfl (rai rfl) ?_
    refine k_nc ?_
    refine k_seq ?_
    refine k_sg ?_
    refine s_run rfl rfl (rmi rfl) ?_
    refine s_run rfl rfl (r_fa0 rfl fo31_1) ?_
    refine s_run rfl rfl (r_ia1 (i := k) rfl rfl (by omega) (by omega) Try.underlying29 sz3) ?_
    refine s_run rfl rfl (r_lo H 0 rfl rfl (dgq hk) ag3) ?_
    refine s_run rfl rfl (r_geqT rfl rfl (by omega)) ?_
    refine k_nc ?_
    refine k_t rfl ?_
    refine k_rg ?_
    refine s_run rfl rfl (rmi rfl) ?_
    refine s_run rfl rfl (r_fa0 rfl fo31_1) ?_
    refine s_run rfl rfl (r_ia1 (i := k) rfl rfl (by omega) (by omega) Try.underlying29 sz3) ?_
    refine s_run rfl rfl (r_lo H 0 rfl rfl (dgq hk) ag3) ?_
    refine s_run rfl rfl (rmi rfl) ?_
    refine s_run rfl rfl (r_sub rfl rfl (wI (by omega))) ?_
    refine s_run rfl rfl (rai rfl) ?_
    refine k_nc ?_
    refine k_seq ?_
    refine k_seq ?_
    refine k_trK mixed H ?_; have H' := H.drew; clear H; have H := H'; clear H'
    refine tqh 0 rfl rfl rfl (fun _ hS => hS.elim fun _ H => r_mv (v := .pointer _) rfl) ⟨_, H⟩ ?_
    refine tqh 1 rfl rfl rfl (fun _ hS => hS.elim fun _ H => r_mv (v := .int _ _) rfl) ⟨_, H⟩ ?_
    refine tqh 3 rfl rfl rfl (fun _ hS => hS.elim fun _ H => r_mv (v := .int _ _) rfl) ⟨_, H⟩ ?_
    refine t_up1 2 (by kernel_rfl) ?_
    refine up_mk rfl ?_
    refine s_call rfl (oH H.only) (ca12 rfl) ?_
    rintro e W1 ⟨rfl, H'⟩
    refine ⟨_, rfl, ?_⟩
    (first | replace hPA := hPA.later H' (by simp) | skip); (first | replace hQA := hQA.later H' (by simp) | skip); have H := H.same H'; clear H'
    refine k_nil ?_
    refine t_on ⟨_, H⟩ ?_
    refine tqh 4 rfl rfl rfl (fun _ hS => hS.elim fun _ H => r_neqF rfl rfl (by omega)) ⟨_, H⟩ ?_
    refine tqh 5 rfl rfl rfl (fun _ hS => hS.elim fun _ H => r_mv (v := .bool _) rfl) ⟨_, H⟩ ?_
    refine tqh 6 rfl rfl (g_on 67 (by kernel_rfl) rfl) (fun _ hS => hS.elim fun _ H => r_mv (v := .pointer _) rfl) ⟨_, H⟩ ?_
    refine tqh 7 rfl rfl (g_on 67 (by kernel_rfl) rfl) (fun _ hS => hS.elim fun _ H => r_mv (v := .int _ _) rfl) ⟨_, H⟩ ?_
    refine tqh 9 rfl rfl (g_on 67 (by kernel_rfl) rfl) (fun _ hS => hS.elim fun _ H => r_mv (v := .int _ _) rfl) ⟨_, H⟩ ?_
    refine tqh 10 rfl rfl (g_on 67 (by kernel_rfl) rfl) (fun _ hS => hS.elim fun _ H => r_fa0 rfl fo31_2) ⟨_, H⟩ ?_
    refine tqh 11 rfl rfl (g_on 67 (by kernel_rfl) rfl) (fun _ hS => hS.elim fun _ H => r_ia1 (i := k) rfl rfl (by omega) (by omega) Try.underlying29 sz3) ⟨_, H⟩ ?_
    refine tqh 12 rfl rfl (g_on 67 (by kernel_rfl) rfl) (fun _ hS => hS.elim fun _ H => r_lo H 0 rfl rfl (dgp hk) ag3) ⟨_, H⟩ ?_
    refine t_up1 8 (by kernel_rfl) ?_
    refine up_mk rfl ?_
    refine s_call (g_on 67 (by kernel_rfl) rfl) (oP H.only) (ca49 rfl) ?_
    rintro e W1 ⟨rfl, H'⟩
    refine ⟨_, rfl, ?_⟩
    (first | replace hPA := hPA.later H' (by simp) | skip); (first | replace hQA := hQA.later H' (by simp) | skip); have H := H.same H'; clear H'
    refine k_nil ?_
    refine t_on ⟨_, H⟩ ?_
    refine tqh 13 rfl rfl (g_on 67 (by kernel_rfl) rfl) (fun _ hS => hS.elim fun _ H => r_neqF rfl rfl (by omega)) ⟨_, H⟩ ?_
    refine tqh 14 rfl rfl rfl (fun _ hS => hS.elim fun _ H => r_pkF (v := .bool _) rfl rfl) ⟨_, H⟩ ?_
    refine tqh 15 rfl rfl rfl (fun _ hS => hS.elim fun _ H => r_mv (v := .bool _) rfl) ⟨_, H⟩ ?_
    refine tqh 16 rfl rfl (g_on 77 (by kernel_rfl) rfl) (fun _ hS => hS.elim fun _ H => r_mv (v := .pointer _) rfl) ⟨_, H⟩ ?_
    refine tqh 17 rfl rfl (g_on 77 (by kernel_rfl) rfl) (fun _ hS => hS.elim fun _ H => r_mv (v := .int _ _) rfl) ⟨_, H⟩ ?_
    refine tqh 19 rfl rfl (g_on 77 (by kernel_rfl) rfl) (fun _ hS => hS.elim fun _ H => r_mv (v := .int _ _) rfl) ⟨_, H⟩ ?_
    refine tqh 20 rfl rfl (g_on 77 (by kernel_rfl) rfl) (fun _ hS => hS.elim fun _ H => r_fa0 rfl fo31_3) ⟨_, H⟩ ?_
    refine tqh 21 rfl rfl (g_on 77 (by kernel_rfl) rfl) (fun _ hS => hS.elim fun _ H => r_ia1 (i := k) rfl rfl (by omega) (by omega) Try.underlying29 sz3) ⟨_, H⟩ ?_
    refine tqh 22 rfl rfl (g_on 77 (by kernel_rfl) rfl) (fun _ hS => hS.elim fun _ H => r_lo H 0 rfl rfl (dgt hk) ag3) ⟨_, H⟩ ?_
    refine t_up1 18 (by kernel_rfl) ?_
    refine up_mk rfl ?_
    refine s_call (g_on 77 (by kernel_rfl) rfl) (oT H.only) (ca50 rfl) ?_
    rintro e W1 ⟨rfl, H'⟩
    refine ⟨_, rfl, ?_⟩
    (first | replace hPA := hPA.later H' (by simp) | skip); (first | replace hQA := hQA.later H' (by simp) | skip); have H := H.same H'; clear H'
    refine k_nil ?_
    refine t_on ⟨_, H⟩ ?_
    refine tqh 23 rfl rfl (g_on 77 (by kernel_rfl) rfl) (fun _ hS => hS.elim fun _ H => r_neqF rfl rfl (by omega)) ⟨_, H⟩ ?_
    refine tqh 24 rfl rfl rfl (fun _ hS => hS.elim fun _ H => r_pkF (v := .bool _) rfl rfl) ⟨_, H⟩ ?_
    refine tqh 25 rfl rfl rfl (fun _ hS => hS.elim fun _ H => r_mv (v := .bool _) rfl) ⟨_, H⟩ ?_
    refine tqh 26 rfl rfl (g_on 87 (by kernel_rfl) rfl) (fun _ hS => hS.elim fun _ H => r_mv (v := .pointer _) rfl) ⟨_, H⟩ ?_
    refine tqh 27 rfl rfl (g_on 87 (by kernel_rfl) rfl) (fun _ hS => hS.elim fun _ H => r_mv (v := .int _ _) rfl) ⟨_, H⟩ ?_
    refine tqh 29 rfl rfl (g_on 87 (by kernel_rfl) rfl) (fun _ hS => hS.elim fun _ H => r_mv (v := .int _ _) rfl) ⟨_, H⟩ ?_
    refine t_up1 28 (by kernel_rfl) ?_
    refine up_mk rfl ?_
    refine s_call (g_on 87 (by kernel_rfl) rfl) (oR H.only) (ca51 rfl) ?_
    rintro e W1 ⟨rfl, H'⟩
    refine ⟨_, rfl, ?_⟩
    (first | replace hPA := hPA.later H' (by simp) | skip); (first | replace hQA := hQA.later H' (by simp) | skip); have H := H.same H'; clear H'
    refine k_nil ?_
    refine t_on ⟨_, H⟩ ?_
    refine tqh 30 rfl rfl (g_on 87 (by kernel_rfl) rfl) (fun _ hS => hS.elim fun _ H => r_neqF rfl rfl (by omega)) ⟨_, H⟩ ?_
    refine tqh 31 rfl rfl rfl (fun _ hS => hS.elim fun _ H => r_pkF (v := .bool _) rfl rfl) ⟨_, H⟩ ?_
    refine tqh 32 rfl rfl rfl (fun _ hS => hS.elim fun _ H => r_mv (v := .bool _) rfl) ⟨_, H⟩ ?_
    refine tqh 33 rfl rfl (g_on 94 (by kernel_rfl) rfl) (fun _ hS => hS.elim fun _ H => r_mv (v := .pointer _) rfl) ⟨_, H⟩ ?_
    refine tqh 34 rfl rfl (g_on 94 (by kernel_rfl) rfl) (fun _ hS => hS.elim fun _ H => r_mv (v := .int _ _) rfl) ⟨_, H⟩ ?_
    refine tqh 36 rfl rfl (g_on 94 (by kernel_rfl) rfl) (fun _ hS => hS.elim fun _ H => r_la H 0 rfl rfl rfl ag31 sz31) ⟨_, H⟩ ?_
    refine tqh 37 rfl rfl (g_on 94 (by kernel_rfl) rfl) (fun _ hS => hS.elim fun _ H => r_mv (v := .int _ _) rfl) ⟨_, H⟩ ?_
    refine t_up1 35 (by kernel_rfl) ?_
    refine up_mk rfl ?_
    refine s_call (g_on 94 (by kernel_rfl) rfl) (oA H.only) (ca52 rfl) ?_
    rintro e W1 ⟨PA, pc, rfl, H'⟩
    refine ⟨_, rfl, ?_⟩
    have hPA := own_seesC H' 0 rfl; (first | replace hQA := hQA.later H'.only (by simp) | skip); have H := H.same H'.only; clear H'
    refine k_nil ?_
    refine t_on ⟨_, H⟩ ?_
    refine t_up1 38 (by kernel_rfl) ?_
    refine up_mk rfl ?_
    refine s_call (g_on 94 (by kernel_rfl) rfl) (dA H.only) (ca32 rfl) ?_
    rintro e W1 ⟨QA, qc, rfl, hQA, hqc, H'⟩
    refine ⟨_, rfl, ?_⟩
    (first | replace hPA := hPA.later H' (by simp) | skip); have H := H.same H'; clear H'
    refine k_nil ?_
    refine t_on ⟨_, H⟩ ?_
    refine t_up1 39 (by kernel_rfl) ?_
    refine up_mk rfl ?_
    refine s_call (g_on 94 (by kernel_rfl) rfl) (hIn hPA hQA) (ca20 rfl) ?_
    rintro e W1 ⟨rfl, H'⟩
    refine ⟨_, rfl, ?_⟩
    have H := H.same H'; clear H'
    refine k_nil ?_
    refine t_on ⟨_, H⟩ ?_
    refine tqh 40 rfl rfl (g_on 94 (by kernel_rfl) rfl) (fun _ hS => hS.elim fun _ H => r_notT rfl) ⟨_, H⟩ ?_
    refine tqh 41 rfl rfl rfl (fun _ hS => hS.elim fun _ H => r_pkF (v := .bool _) rfl rfl) ⟨_, H⟩ ?_
    refine tqh 42 rfl rfl rfl (fun _ hS => hS.elim fun _ H => r_mv (v := .bool _) rfl) ⟨_, H⟩ ?_
    refine tqh 43 rfl rfl (g_on 104 (by kernel_rfl) rfl) (fun _ hS => hS.elim fun _ H => r_mv (v := .int _ _) rfl) ⟨_, H⟩ ?_
    refine tqh 44 rfl rfl (g_on 104 (by kernel_rfl) rfl) (fun _ hS => hS.elim fun _ H => r_fa0 rfl fo31_1) ⟨_, H⟩ ?_
    refine tqh 45 rfl rfl (g_on 104 (by kernel_rfl) rfl) (fun _ hS => hS.elim fun _ H => r_ia1 (i := k) rfl rfl (by omega) (by omega) Try.underlying29 sz3) ⟨_, H⟩ ?_
    refine tqh 46 rfl rfl (g_on 104 (by kernel_rfl) rfl) (fun _ hS => hS.elim fun _ H => r_lo H 0 rfl rfl (dgq hk) ag3) ⟨_, H⟩ ?_
    refine tqh 47 rfl rfl (g_on 104 (by kernel_rfl) rfl) (fun _ hS => hS.elim fun _ H => r_geqT rfl rfl (by omega)) ⟨_, H⟩ ?_
    refine tqh 48 rfl rfl (g_on 104 (by kernel_rfl) rfl) (fun _ hS => hS.elim fun _ H => r_mv (v := .bool _) rfl) ⟨_, H⟩ ?_
    refine tqh 49 rfl rfl (g_on 110 (by kernel_rfl) rfl) (fun _ hS => hS.elim fun _ H => r_mv (v := .int _ _) rfl) ⟨_, H⟩ ?_
    refine tqh 50 rfl rfl (g_on 110 (by kernel_rfl) rfl) (fun _ hS => hS.elim fun _ H => r_mv (v := .int _ _) rfl) ⟨_, H⟩ ?_
    refine tqh 51 rfl rfl (g_on 110 (by kernel_rfl) rfl) (fun _ hS => hS.elim fun _ H => r_fa0 rfl fo31_1) ⟨_, H⟩ ?_
    refine tqh 52 rfl rfl (g_on 110 (by kernel_rfl) rfl) (fun _ hS => hS.elim fun _ H => r_ia1 (i := k) rfl rfl (by omega) (by omega) Try.underlying29 sz3) ⟨_, H⟩ ?_
    refine tqh 53 rfl rfl (g_on 110 (by kernel_rfl) rfl) (fun _ hS => hS.elim fun _ H => r_lo H 0 rfl rfl (dgq hk) ag3) ⟨_, H⟩ ?_
    refine tqh 54 rfl rfl (g_on 110 (by kernel_rfl) rfl) (fun _ hS => hS.elim fun _ H => r_gtrF rfl rfl (by omega)) ⟨_, H⟩ ?_
    refine tqh 55 rfl rfl (g_on 110 (by kernel_rfl) rfl) (fun _ hS => hS.elim fun _ H => r_mv (v := .bool _) rfl) ⟨_, H⟩ ?_
    refine tqh 56 rfl rfl (g_on 117 (by kernel_rfl) rfl) (fun _ hS => hS.elim fun _ H => r_mv (v := .pointer _) rfl) ⟨_, H⟩ ?_
    refine tqh 57 rfl rfl (g_on 117 (by kernel_rfl) rfl) (fun _ hS => hS.elim fun _ H => r_mv (v := .int _ _) rfl) ⟨_, H⟩ ?_
    refine tqh 59 rfl rfl (g_on 117 (by kernel_rfl) rfl) (fun _ hS => hS.elim fun _ H => r_mv (v := .int _ _) rfl) ⟨_, H⟩ ?_
    refine tqh 60 rfl rfl (g_on 117 (by kernel_rfl) rfl) (fun _ hS => hS.elim fun _ H => r_fa0 rfl fo31_1) ⟨_, H⟩ ?_
    refine tqh 61 rfl rfl (g_on 117 (by kernel_rfl) rfl) (fun _ hS => hS.elim fun _ H => r_ia1 (i := k) rfl rfl (by omega) (by omega) Try.underlying29 sz3) ⟨_, H⟩ ?_
    refine tqh 62 rfl rfl (g_on 117 (by kernel_rfl) rfl) (fun _ hS => hS.elim fun _ H => r_lo H 0 rfl rfl (dgq hk) ag3) ⟨_, H⟩ ?_
    refine t_up1 58 (by kernel_rfl) ?_
    refine up_mk rfl ?_
    refine s_call (g_on 117 (by kernel_rfl) rfl) (oP H.only) (ca49 rfl) ?_
    rintro e W1 ⟨rfl, H'⟩
    refine ⟨_, rfl, ?_⟩
    (first | replace hPA := hPA.later H' (by simp) | skip); (first | replace hQA := hQA.later H' (by simp) | skip); have H := H.same H'; clear H'
    refine k_nil ?_
    refine t_on ⟨_, H⟩ ?_
    refine tqh 63 rfl rfl (g_on 117 (by kernel_rfl) rfl) (fun _ hS => hS.elim fun _ H => r_gtrF rfl rfl (by omega)) ⟨_, H⟩ ?_
    refine tqh 64 rfl rfl (g_on 110 (by kernel_rfl) rfl) (fun _ hS => hS.elim fun _ H => r_pkF (v := .bool _) rfl rfl) ⟨_, H⟩ ?_
    refine tqh 65 rfl rfl (g_on 104 (by kernel_rfl) rfl) (fun _ hS => hS.elim fun _ H => r_pkT (v := .bool _) rfl rfl) ⟨_, H⟩ ?_
    refine tqh 66 rfl rfl rfl (fun _ hS => hS.elim fun _ H => r_pkF (v := .bool _) rfl rfl) ⟨_, H⟩ ?_
    refine t_done (by kernel_rfl) ?_
    refine c_norm ?_
    refine k_f rfl ?_
    refine k_skip ?_
    refine c_norm ?_
    refine k_rg ?_
    refine s_run rfl rfl (rmi rfl) ?_
    refine s_run rfl rfl (rmi rfl) ?_
    refine s_run rfl rfl (r_add rfl rfl (wI (by omega))) ?_
    refine s_run rfl rfl (rai rfl) ?_
    refine k_nil ?_
    refine b_norm ?_
    refine c_norm ?_
    refine k_rg ?_
    refine s_run rfl rfl (rmi rfl) ?_
    refine s_run rfl rfl (r_add rfl rfl (wI (by omega))) ?_
    refine s_run rfl rfl (rai rfl) ?_
    refine k_nil ?_
    refine c_round ?_
    exact ⟨_, _, by omega, rfl, i + 1, k + 1, by omega, by omega, rfl, rfl, rfl, by rw [hto]; rfl, rfl, H⟩
   ·have g1 : s.room k = -1 := by unfold LdS.room; rw [if_neg (by omega)]
    rw [g1] at oR
    refine k_seq ?_
    refine k_sg ?_
    refine s_run rfl rfl (rmi rfl) ?_
    refine s_run rfl rfl (r_lssT rfl rfl (by omega)) ?_
    refine k_nc ?_
    refine k_t rfl ?_
    refine k_skip ?_
    refine c_norm ?_
    refine k_seq ?_
    refine k_b ?_
    refine k_seq ?_
    refine k_sg ?_
    refine s_run rfl rfl (rmi rfl) ?_
    refine s_run rfl rfl (r_lssF rfl rfl (by omega)) ?_
    refine s_run rfl rfl (rmb rfl) ?_
    refine s_run rfl (g_on 15 (by kernel_rfl) rfl) (rmi rfl) ?_
    refine s_run rfl (g_on 15 (by kernel_rfl) rfl) (r_gtrF rfl rfl (by omega)) ?_
    refine s_run rfl rfl (r_pkF (v := .bool _) rfl rfl) ?_
    refine k_nc ?_
    refine k_f rfl ?_
    refine k_skip ?_
    refine c_norm ?_
    refine k_sg ?_
    refine s_run rfl rfl (r_la H 0 rfl rfl rfl ag31 sz31) ?_
    refine s_run rfl rfl (rmi rfl) ?_
    refine s_call rfl (dH H.only) (ca53 rfl) ?_
    rintro e W1 ⟨rfl, H'⟩
    refine ⟨_, rfl, ?_⟩
    have H := H.same H'; clear H'
    refine s_run rfl rfl (rai rfl) ?_
    refine k_nc ?_
    refine k_sg ?_
    refine s_run rfl rfl (rai rfl) ?_
    refine k_nc ?_
    refine k_seq ?_
    refine k_sg ?_
    refine s_run rfl rfl (rmi rfl) ?_
    refine s_run rfl rfl (r_fa0 rfl fo31_1) ?_
    refine s_run rfl rfl (r_ia1 (i := k) rfl rfl (by omega) (by omega) Try.underlying29 sz3) ?_
    refine s_run rfl rfl (r_lo H 0 rfl rfl (dgq hk) ag3) ?_
    refine s_run rfl rfl (r_geqF rfl rfl (by omega)) ?_
    refine k_nc ?_
    refine k_f rfl ?_
    refine k_skip ?_
    refine c_norm ?_
    refine k_seq ?_
    refine k_seq ?_
    refine k_trK mixed H ?_; have H' := H.drew; clear H; have H := H'; clear H'
    refine tqh 0 rfl rfl rfl (fun _ hS => hS.elim fun _ H => r_mv (v := .pointer _) rfl) ⟨_, H⟩ ?_
    refine tqh 1 rfl rfl rfl (fun _ hS => hS.elim fun _ H => r_mv (v := .int _ _) rfl) ⟨_, H⟩ ?_
    refine tqh 3 rfl rfl rfl (fun _ hS => hS.elim fun _ H => r_mv (v := .int _ _) rfl) ⟨_, H⟩ ?_
    refine t_up1 2 (by kernel_rfl) ?_
    refine up_mk rfl ?_
    refine s_call rfl (oH H.only) (ca12 rfl) ?_
    rintro e W1 ⟨rfl, H'⟩
    refine ⟨_, rfl, ?_⟩
    (first | replace hPA := hPA.later H' (by simp) | skip); (first | replace hQA := hQA.later H' (by simp) | skip); have H := H.same H'; clear H'
    refine k_nil ?_
    refine t_on ⟨_, H⟩ ?_
    refine tqh 4 rfl rfl rfl (fun _ hS => hS.elim fun _ H => r_neqF rfl rfl (by omega)) ⟨_, H⟩ ?_
    refine tqh 5 rfl rfl rfl (fun _ hS => hS.elim fun _ H => r_mv (v := .bool _) rfl) ⟨_, H⟩ ?_
    refine tqh 6 rfl rfl (g_on 67 (by kernel_rfl) rfl) (fun _ hS => hS.elim fun _ H => r_mv (v := .pointer _) rfl) ⟨_, H⟩ ?_
    refine tqh 7 rfl rfl (g_on 67 (by kernel_rfl) rfl) (fun _ hS => hS.elim fun _ H => r_mv (v := .int _ _) rfl) ⟨_, H⟩ ?_
    refine tqh 9 rfl rfl (g_on 67 (by kernel_rfl) rfl) (fun _ hS => hS.elim fun _ H => r_mv (v := .int _ _) rfl) ⟨_, H⟩ ?_
    refine tqh 10 rfl rfl (g_on 67 (by kernel_rfl) rfl) (fun _ hS => hS.elim fun _ H => r_fa0 rfl fo31_2) ⟨_, H⟩ ?_
    refine tqh 11 rfl rfl (g_on 67 (by kernel_rfl) rfl) (fun _ hS => hS.elim fun _ H => r_ia1 (i := k) rfl rfl (by omega) (by omega) Try.underlying29 sz3) ⟨_, H⟩ ?_
    refine tqh 12 rfl rfl (g_on 67 (by kernel_rfl) rfl) (fun _ hS => hS.elim fun _ H => r_lo H 0 rfl rfl (dgp hk) ag3) ⟨_, H⟩ ?_
    refine t_up1 8 (by kernel_rfl) ?_
    refine up_mk rfl ?_
    refine s_call (g_on 67 (by kernel_rfl) rfl) (oP H.only) (ca49 rfl) ?_
    rintro e W1 ⟨rfl, H'⟩
    refine ⟨_, rfl, ?_⟩
    (first | replace hPA := hPA.later H' (by simp) | skip); (first | replace hQA := hQA.later H' (by simp) | skip); have H := H.same H'; clear H'
    refine k_nil ?_
    refine t_on ⟨_, H⟩ ?_
    refine tqh 13 rfl rfl (g_on 67 (by kernel_rfl) rfl) (fun _ hS => hS.elim fun _ H => r_neqF rfl rfl (by omega)) ⟨_, H⟩ ?_
    refine tqh 14 rfl rfl rfl (fun _ hS => hS.elim fun _ H => r_pkF (v := .bool _) rfl rfl) ⟨_, H⟩ ?_
    refine tqh 15 rfl rfl rfl (fun _ hS => hS.elim fun _ H => r_mv (v := .bool _) rfl) ⟨_, H⟩ ?_
    refine tqh 16 rfl rfl (g_on 77 (by kernel_rfl) rfl) (fun _ hS => hS.elim fun _ H => r_mv (v := .pointer _) rfl) ⟨_, H⟩ ?_
    refine tqh 17 rfl rfl (g_on 77 (by kernel_rfl) rfl) (fun _ hS => hS.elim fun _ H => r_mv (v := .int _ _) rfl) ⟨_, H⟩ ?_
    refine tqh 19 rfl rfl (g_on 77 (by kernel_rfl) rfl) (fun _ hS => hS.elim fun _ H => r_mv (v := .int _ _) rfl) ⟨_, H⟩ ?_
    refine tqh 20 rfl rfl (g_on 77 (by kernel_rfl) rfl) (fun _ hS => hS.elim fun _ H => r_fa0 rfl fo31_3) ⟨_, H⟩ ?_
    refine tqh 21 rfl rfl (g_on 77 (by kernel_rfl) rfl) (fun _ hS => hS.elim fun _ H => r_ia1 (i := k) rfl rfl (by omega) (by omega) Try.underlying29 sz3) ⟨_, H⟩ ?_
    refine tqh 22 rfl rfl (g_on 77 (by kernel_rfl) rfl) (fun _ hS => hS.elim fun _ H => r_lo H 0 rfl rfl (dgt hk) ag3) ⟨_, H⟩ ?_
    refine t_up1 18 (by kernel_rfl) ?_
    refine up_mk rfl ?_
    refine s_call (g_on 77 (by kernel_rfl) rfl) (oT H.only) (ca50 rfl) ?_
    rintro e W1 ⟨rfl, H'⟩
    refine ⟨_, rfl, ?_⟩
    (first | replace hPA := hPA.later H' (by simp) | skip); (first | replace hQA := hQA.later H' (by simp) | skip); have H := H.same H'; clear H'
    refine k_nil ?_
    refine t_on ⟨_, H⟩ ?_
    refine tqh 23 rfl rfl (g_on 77 (by kernel_rfl) rfl) (fun _ hS => hS.elim fun _ H => r_neqF rfl rfl (by omega)) ⟨_, H⟩ ?_
    refine tqh 24 rfl rfl rfl (fun _ hS => hS.elim fun _ H => r_pkF (v := .bool _) rfl rfl) ⟨_, H⟩ ?_
    refine tqh 25 rfl rfl rfl (fun _ hS => hS.elim fun _ H => r_mv (v := .bool _) rfl) ⟨_, H⟩ ?_
    refine tqh 26 rfl rfl (g_on 87 (by kernel_rfl) rfl) (fun _ hS => hS.elim fun _ H => r_mv (v := .pointer _) rfl) ⟨_, H⟩ ?_
    refine tqh 27 rfl rfl (g_on 87 (by kernel_rfl) rfl) (fun _ hS => hS.elim fun _ H => r_mv (v := .int _ _) rfl) ⟨_, H⟩ ?_
    refine tqh 29 rfl rfl (g_on 87 (by kernel_rfl) rfl) (fun _ hS => hS.elim fun _ H => r_mv (v := .int _ _) rfl) ⟨_, H⟩ ?_
    refine t_up1 28 (by kernel_rfl) ?_
    refine up_mk rfl ?_
    refine s_call (g_on 87 (by kernel_rfl) rfl) (oR H.only) (ca51 rfl) ?_
    rintro e W1 ⟨rfl, H'⟩
    refine ⟨_, rfl, ?_⟩
    (first | replace hPA := hPA.later H' (by simp) | skip); (first | replace hQA := hQA.later H' (by simp) | skip); have H := H.same H'; clear H'
    refine k_nil ?_
    refine t_on ⟨_, H⟩ ?_
    refine tqh 30 rfl rfl (g_on 87 (by kernel_rfl) rfl) (fun _ hS => hS.elim fun _ H => r_neqF rfl rfl (by omega)) ⟨_, H⟩ ?_
    refine tqh 31 rfl rfl rfl (fun _ hS => hS.elim fun _ H => r_pkF (v := .bool _) rfl rfl) ⟨_, H⟩ ?_
    refine tqh 32 rfl rfl rfl (fun _ hS => hS.elim fun _ H => r_mv (v := .bool _) rfl) ⟨_, H⟩ ?_
    refine tqh 33 rfl rfl (g_on 94 (by kernel_rfl) rfl) (fun _ hS => hS.elim fun _ H => r_mv (v := .pointer _) rfl) ⟨_, H⟩ ?_
    refine tqh 34 rfl rfl (g_on 94 (by kernel_rfl) rfl) (fun _ hS => hS.elim fun _ H => r_mv (v := .int _ _) rfl) ⟨_, H⟩ ?_
    refine tqh 36 rfl rfl (g_on 94 (by kernel_rfl) rfl) (fun _ hS => hS.elim fun _ H => r_la H 0 rfl rfl rfl ag31 sz31) ⟨_, H⟩ ?_
    refine tqh 37 rfl rfl (g_on 94 (by kernel_rfl) rfl) (fun _ hS => hS.elim fun _ H => r_mv (v := .int _ _) rfl) ⟨_, H⟩ ?_
    refine t_up1 35 (by kernel_rfl) ?_
    refine up_mk rfl ?_
    refine s_call (g_on 94 (by kernel_rfl) rfl) (oA H.only) (ca52 rfl) ?_
    rintro e W1 ⟨PA, pc, rfl, H'⟩
    refine ⟨_, rfl, ?_⟩
    have hPA := own_seesC H' 0 rfl; (first | replace hQA := hQA.later H'.only (by simp) | skip); have H := H.same H'.only; clear H'
    refine k_nil ?_
    refine t_on ⟨_, H⟩ ?_
    refine t_up1 38 (by kernel_rfl) ?_
    refine up_mk rfl ?_
    refine s_call (g_on 94 (by kernel_rfl) rfl) (dA H.only) (ca32 rfl) ?_
    rintro e W1 ⟨QA, qc, rfl, hQA, hqc, H'⟩
    refine ⟨_, rfl, ?_⟩
    (first | replace hPA := hPA.later H' (by simp) | skip); have H := H.same H'; clear H'
    refine k_nil ?_
    refine t_on ⟨_, H⟩ ?_
    refine t_up1 39 (by kernel_rfl) ?_
    refine up_mk rfl ?_
    refine s_call (g_on 94 (by kernel_rfl) rfl) (hIn hPA hQA) (ca20 rfl) ?_
    rintro e W1 ⟨rfl, H'⟩
    refine ⟨_, rfl, ?_⟩
    have H := H.same H'; clear H'
    refine k_nil ?_
    refine t_on ⟨_, H⟩ ?_
    refine tqh 40 rfl rfl (g_on 94 (by kernel_rfl) rfl) (fun _ hS => hS.elim fun _ H => r_notT rfl) ⟨_, H⟩ ?_
    refine tqh 41 rfl rfl rfl (fun _ hS => hS.elim fun _ H => r_pkF (v := .bool _) rfl rfl) ⟨_, H⟩ ?_
    refine tqh 42 rfl rfl rfl (fun _ hS => hS.elim fun _ H => r_mv (v := .bool _) rfl) ⟨_, H⟩ ?_
    refine tqh 43 rfl rfl (g_on 104 (by kernel_rfl) rfl) (fun _ hS => hS.elim fun _ H => r_mv (v := .int _ _) rfl) ⟨_, H⟩ ?_
    refine tqh 44 rfl rfl (g_on 104 (by kernel_rfl) rfl) (fun _ hS => hS.elim fun _ H => r_fa0 rfl fo31_1) ⟨_, H⟩ ?_
    refine tqh 45 rfl rfl (g_on 104 (by kernel_rfl) rfl) (fun _ hS => hS.elim fun _ H => r_ia1 (i := k) rfl rfl (by omega) (by omega) Try.underlying29 sz3) ⟨_, H⟩ ?_
    refine tqh 46 rfl rfl (g_on 104 (by kernel_rfl) rfl) (fun _ hS => hS.elim fun _ H => r_lo H 0 rfl rfl (dgq hk) ag3) ⟨_, H⟩ ?_
    refine tqh 47 rfl rfl (g_on 104 (by kernel_rfl) rfl) (fun _ hS => hS.elim fun _ H => r_geqF rfl rfl (by omega)) ⟨_, H⟩ ?_
    refine tqh 48 rfl rfl (g_on 104 (by kernel_rfl) rfl) (fun _ hS => hS.elim fun _ H => r_mv (v := .bool _) rfl) ⟨_, H⟩ ?_
    refine toh 49 rfl rfl (g_off 110 (by kernel_rfl) rfl rfl) ⟨_, H⟩ ?_
    refine toh 50 rfl rfl (g_off 110 (by kernel_rfl) rfl rfl) ⟨_, H⟩ ?_
    refine toh 51 rfl rfl (g_off 110 (by kernel_rfl) rfl rfl) ⟨_, H⟩ ?_
    refine toh 52 rfl rfl (g_off 110 (by kernel_rfl) rfl rfl) ⟨_, H⟩ ?_
    refine toh 53 rfl rfl (g_off 110 (by kernel_rfl) rfl rfl) ⟨_, H⟩ ?_
    refine toh 54 rfl rfl (g_off 110 (by kernel_rfl) rfl rfl) ⟨_, H⟩ ?_
    refine toh 55 rfl rfl (g_off 110 (by kernel_rfl) rfl rfl) ⟨_, H⟩ ?_
    refine toh 56 rfl rfl (g_un 117 (by kernel_rfl) rfl) ⟨_, H⟩ ?_
    refine toh 57 rfl rfl (g_un 117 (by kernel_rfl) rfl) ⟨_, H⟩ ?_
    refine toh 58 rfl rfl (g_un 117 (by kernel_rfl) rfl) ⟨_, H⟩ ?_
    refine toh 59 rfl rfl (g_un 117 (by kernel_rfl) rfl) ⟨_, H⟩ ?_
    refine toh 60 rfl rfl (g_un 117 (by kernel_rfl) rfl) ⟨_, H⟩ ?_
    refine toh 61 rfl rfl (g_un 117 (by kernel_rfl) rfl) ⟨_, H⟩ ?_
    refine toh 62 rfl rfl (g_un 117 (by kernel_rfl) rfl) ⟨_, H⟩ ?_
    refine toh 63 rfl rfl (g_un 117 (by kernel_rfl) rfl) ⟨_, H⟩ ?_
    refine toh 64 rfl rfl (g_off 110 (by kernel_rfl) rfl rfl) ⟨_, H⟩ ?_
    refine tqh 65 rfl rfl (g_on 104 (by kernel_rfl) rfl) (fun _ hS => hS.elim fun _ H => r_pkF (v := .bool _) rfl rfl) ⟨_, H⟩ ?_
    refine tqh 66 rfl rfl rfl (fun _ hS => hS.elim fun _ H => r_pkF (v := .bool _) rfl rfl) ⟨_, H⟩ ?_
    refine t_done (by kernel_rfl) ?_
    refine c_norm ?_
    refine k_f rfl ?_
    refine k_skip ?_
    refine c_norm ?_
    refine k_rg ?_
    refine s_run rfl rfl (rmi rfl) ?_
    refine s_run rfl rfl (rmi rfl) ?_
    refine s_run rfl rfl (r_add rfl rfl (wI (by omega))) ?_
    refine s_run rfl rfl (rai rfl) ?_
    refine k_nil ?_
    refine b_norm ?_
    refine c_norm ?_
    refine k_rg ?_
    refine s_run rfl rfl (rmi rfl) ?_
    refine s_run rfl rfl (r_add rfl rfl (wI (by omega))) ?_
    refine s_run rfl rfl (rai rfl) ?_
    refine k_nil ?_
    refine c_round ?_
    exact ⟨_, _, by omega, rfl, i + 1, k + 1, by omega, by omega, rfl, rfl, rfl, by rw [hto]; rfl, rfl, H⟩
 ·obtain rfl : i = 6 := by omega
  have e5 : totTo s m = s.h 0 + s.h 1 + s.h 2 + s.h 3 := by
   unfold totTo
   rw [if_pos (by omega), if_pos (by omega), if_pos (by omega), if_pos (by omega)]
  refine k_seq ?_
  refine k_sg ?_
  refine s_run rfl rfl (rmi rfl) ?_
  refine s_run rfl rfl (r_lssF rfl rfl (by omega)) ?_
  refine k_nc ?_
  refine k_f rfl ?_
  refine k_exit ?_
  refine c_exit ?_
  refine c_exit ?_
  refine b_hit ?_
  refine c_norm ?_
  refine k_sg ?_
  refine s_run rfl rfl (rmp rfl) ?_
  refine s_call rfl (oTt H.only) (ca13 rfl) ?_
  rintro e W1 ⟨rfl, H'⟩
  refine ⟨_, rfl, ?_⟩
  have H := H.same H'; clear H'
  refine s_run rfl rfl (rmi rfl) ?_
  refine s_run rfl rfl (r_eqlT rfl rfl (by omega)) ?_
  refine s_run rfl rfl (rab rfl) ?_
  refine k_nc ?_
  refine k_ret ?_
  refine fin1r (v := .bool _) rfl rfl ?_
  exact ⟨rfl, H.only⟩
end Go.Proofs.Ytpbimgopiammaaa
end

section
namespace Go.Proofs.Ytpbimgopiammaaa
theorem atsOf_mem {N : Nat} {s : LdS} (hok : LdOk N s) (m a : Int) : a ∈ srt (atsOf s.L m) ↔ (mget s.L (m, a)).isSome = true := by
 rw [(srt_perm _).mem_iff]
 unfold atsOf
 rw [List.mem_map]
 constructor
 ·rintro ⟨x, hx, rfl⟩
  obtain ⟨h1, h2⟩ := List.mem_filter.1 hx
  have h2 : x.1.1 = m := by simpa using h2
  obtain ⟨j, hj⟩ := List.mem_iff_getElem?.1 h1
  obtain ⟨g, _, _⟩ := m_some s.L j x hj hok.nd
  have e : x.1 = (m, x.1.2) := by rw [← h2]
  rw [← e, g]; rfl
 ·intro h
  obtain ⟨v, hv⟩ := Option.isSome_iff_exists.1 h
  obtain ⟨j, hj, _⟩ := mget_at hok.nd hv
  exact ⟨((m, a), v), List.mem_filter.2 ⟨List.mem_of_getElem? hj, by simp⟩, rfl⟩
theorem atsOf_nd {N : Nat} {s : LdS} (hok : LdOk N s) (m : Int) : (srt (atsOf s.L m)).Nodup := by
 rw [(srt_perm _).nodup_iff]
 have : ∀ L : LdL, (L.map Prod.fst).Nodup → (atsOf L m).Nodup := fun L => by
  induction L with
  | nil => intro _; simp [atsOf]
  | cons x L ih =>
   intro h
   simp only [List.map_cons, List.nodup_cons] at h
   rw [atsOf_cons]
   split
   ·rename_i e
    simp only [List.singleton_append, List.nodup_cons]
    refine ⟨fun hm => h.1 ?_, ih h.2⟩
    unfold atsOf at hm
    obtain ⟨y, hy, hy2⟩ := List.mem_map.1 hm
    obtain ⟨h1, h2⟩ := List.mem_filter.1 hy
    have h2 : y.1.1 = m := by simpa using h2
    refine List.mem_map.2 ⟨y, h1, ?_⟩
    exact Prod.ext (by rw [h2, e]) hy2
   ·simpa using ih h.2
 exact this s.L hok.nd
end Go.Proofs.Ytpbimgopiammaaa
end

section
namespace Go.Proofs.Ytpbimgopiammaaa
open Go.RowKit
structure LOp where
 f0 : Int
 f1 : Int
 f2 : Int
 f3 : Int
 A4 : Option Addr
 n4 : Nat
 c4 : Nat
 xs4 : List Int
def LOp.cells (u : LOp) : List Value := [.int .i64 u.f0, .int .i64 u.f1, .int .i64 u.f2, .int .i64 u.f3, .slice u.A4 u.n4 u.c4]
structure LOpOk (w : World) (u : LOp) : Prop where
 w0 : (Lit.int .i64 u.f0).wf = true
 w1 : (Lit.int .i64 u.f1).wf = true
 w2 : (Lit.int .i64 u.f2).wf = true
 w3 : (Lit.int .i64 u.f3).wf = true
 s4 : Sees (Value.int .i64) w [] u.A4 u.xs4
 l4 : u.xs4.length = u.n4
 m4 : u.n4 ≤ u.c4 ∧ u.c4 ≤ maxLen
 b4 : ∀ z ∈ u.xs4, (Lit.int .i64 z).wf = true
def ScriptLOp (w : World) (A : Option Addr) (ops : List LOp) : Prop := (ops.length ≠ 0 → ∃ b o, A = some ⟨b, o, none⟩ ∧ ∀ i op, ops[i]? = some op → Reads (fun v : Value => v) w b (o + i * 5) op.cells) ∧ ∀ op ∈ ops, LOpOk w op
theorem LOpOk.later {w W : World} {u : LOp} (h : LOpOk w u) (hO : Only [] w W) : LOpOk W u := ⟨h.w0, h.w1, h.w2, h.w3, h.s4.later hO (by simp), h.l4, h.m4, h.b4⟩
theorem ScriptLOp.later {w W : World} {A : Option Addr} {ops : List LOp} (h : ScriptLOp w A ops) (hO : Only [] w W) : ScriptLOp W A ops :=
 ⟨fun h0 => by
  obtain ⟨b, o, e, hr⟩ := h.1 h0
  exact ⟨b, o, e, fun i op hi => (hr i op hi).later hO (by simp)⟩, fun op hop => (h.2 op hop).later hO⟩
section
open Go.ChangeShapes Go.WideShapes Go.Deep
variable {H : Type} {enc : TypeId × Value → H} {w : World} {base : Nat} {spare : Nat → Bool} {held : Bool}
set_option maxRecDepth 100000 in
theorem open_LOp {fuel : Nat} {cs : List Value} {y : DataW H × List MemPlace} (h : DataW.trod enc Try.prog w base spare held fuel 36 cs = some y) : ∃ op : LOp, cs = op.cells ∧ LOpOk w op := by
 obtain ⟨xs, n, _, _, hl, hlen, hg⟩ := DataW.trod_struct Try.underlying36 h
 have hone := o_one Try.underlying36 (by kernel_rfl)
 have hcl : cs.length = 5 := hl.trans (by kernel_rfl)
 replace hlen : xs.length = 5 := hlen
 match cs, hcl, xs, hlen with
 | [c0, c1, c2, c3, c4], _, [y0, y1, y2, y3, y4], _ =>
  obtain ⟨o0, k0⟩ := hone_of hone 0 _ rfl
  obtain ⟨o1, k1⟩ := hone_of hone 1 _ rfl
  obtain ⟨o2, k2⟩ := hone_of hone 2 _ rfl
  obtain ⟨o3, k3⟩ := hone_of hone 3 _ rfl
  obtain ⟨o4, k4⟩ := hone_of hone 4 _ rfl
  have g0 := hg 0 _ rfl
  have g1 := hg 1 _ rfl
  have g2 := hg 2 _ rfl
  have g3 := hg 3 _ rfl
  have g4 := hg 4 _ rfl
  rw [o0, k0] at g0
  rw [o1, k1] at g1
  rw [o2, k2] at g2
  rw [o3, k3] at g3
  rw [o4, k4] at g4
  replace g0 := g0.trans (show _ = some y0 from rfl)
  replace g1 := g1.trans (show _ = some y1 from rfl)
  replace g2 := g2.trans (show _ = some y2 from rfl)
  replace g3 := g3.trans (show _ = some y3 from rfl)
  replace g4 := g4.trans (show _ = some y4 from rfl)
  obtain ⟨z0, e0, _, w0⟩ := DataW.trod_int Try.underlying3 g0
  obtain ⟨z1, e1, _, w1⟩ := DataW.trod_int Try.underlying3 g1
  obtain ⟨z2, e2, _, w2⟩ := DataW.trod_int Try.underlying3 g2
  obtain ⟨z3, e3, _, w3⟩ := DataW.trod_int Try.underlying3 g3
  obtain ⟨A4, m4, q4, bs4, e4, hs4, hb4, hmc4, hcm4, hw4⟩ := o_sees Try.underlying22 Try.underlying3 (by kernel_rfl) (show DataW.trod enc Try.prog w base spare held n 22 [c4] = some y4 from g4)
  obtain rfl : c0 = .int .i64 z0 := by simpa using e0
  obtain rfl : c1 = .int .i64 z1 := by simpa using e1
  obtain rfl : c2 = .int .i64 z2 := by simpa using e2
  obtain rfl : c3 = .int .i64 z3 := by simpa using e3
  subst e4
  exact ⟨⟨z0, z1, z2, z3, A4, m4, q4, bs4⟩, rfl, w0, w1, w2, w3, hs4, hb4, ⟨hmc4, hcm4⟩, hw4⟩
set_option maxRecDepth 100000 in
theorem opens_LOp (W : World) {r : Reach} (b0 : Nat) (v : Value) (d : DataW H) (p : List MemPlace)
  (hv : Value.okWide Try.prog W r b0 23 v) (h : DataW.Trod enc Try.prog W base spare held 23 v d p) :
  ∃ x : Option Addr × Nat × Nat × List LOp, v = .slice x.1 x.2.1 x.2.2.1 ∧ (ScriptLOp W x.1 x.2.2.2 ∧ x.2.2.2.length = x.2.1 ∧ x.2.1 ≤ 9223372036854775807 ∧ x.2.1 ≤ x.2.2.1) := by
 obtain ⟨a, len, cap, rfl⟩ := okWide_slice Try.underlying23 hv
 obtain ⟨fuel, hf⟩ := h
 have c5 : Try.prog.cellsOf 36 = 5 := by kernel_rfl
 rcases open_slice Try.underlying23 hf with ⟨hcs, _⟩ | ⟨x, l, c, m, n, D, Pl, hcs, _, hl, hm, hmm, _, hx⟩
 ·simp [Value.cells] at hcs
  obtain ⟨rfl, rfl, rfl⟩ := hcs
  exact ⟨(none, 0, 0, []), rfl, ⟨fun h => absurd rfl h, by simp⟩, rfl, by show (0 : Nat) ≤ _; omega, by show (0 : Nat) ≤ _; omega⟩
 ·simp [Value.cells] at hcs
  obtain ⟨rfl, rfl, rfl⟩ := hcs
  rw [c5] at hx
  have hlm : len ≤ m := by rw [hmm]; split <;> omega
  obtain ⟨ops, hol, hq⟩ := o_list (Q := fun i (op : LOp) => LOpOk W op ∧ ∀ j u, op.cells[j]? = some u → W.cell? (x.add (i * 5 + j)) = some u) len (fun i hi => by
   obtain ⟨cs', hc, ht⟩ := hx i (by omega)
   obtain ⟨op, rfl, hok⟩ := open_LOp ht
   obtain ⟨_, hcl, hat⟩ := World.cells?_some hc
   refine ⟨op, hok, fun j u hj => ?_⟩
   have hj5 : j < 5 := by have := (List.getElem?_eq_some_iff.1 hj).1; rw [hcl] at this; exact this
   rw [← Go.Deep.add_add, hat j hj5, hj])
  refine ⟨(some x, len, cap, ops), rfl, ⟨fun h0 => ?_, fun op hop => ?_⟩, hol, by simp only [maxLen] at hm; show len ≤ _; omega, by show len ≤ cap; omega⟩
  ·have h00 : ops.length ≠ 0 := h0
   obtain ⟨op0, hop0⟩ : ∃ op, ops[0]? = some op := ⟨_, List.getElem?_eq_getElem (by omega)⟩
   obtain ⟨b, off, spot⟩ := x
   have hc0 := (hq 0 op0 hop0).2 0 _ rfl
   have hspot : spot = none := by simpa [Addr.add] using World.cell?_spot hc0
   subst hspot
   refine ⟨b, off, rfl, fun i op hi j u hu => ?_⟩
   have := (hq i op hi).2 j u hu
   rw [o_add] at this
   rw [Nat.add_assoc]; exact this
  ·obtain ⟨i, hi, rfl⟩ := List.mem_iff_getElem.1 hop
   exact (hq i _ (List.getElem?_eq_getElem hi)).1
end
theorem wfI_of {z : Int} (h : (Lit.int .i64 z).wf = true) : wfI z := by
 simp [Lit.wf, IntKind.min, IntKind.max, IntKind.signed, IntKind.bits] at h; exact h
end Go.Proofs.Ytpbimgopiammaaa
end

section
namespace Go.Proofs.Ytpbimgopiammaaa
open Go.RowKit Go.ChangeShapes Go.WideShapes Go.ChangeAt
set_option maxRecDepth 100000
set_option maxHeartbeats 8000000
theorem sees_on1 {α : Type} {enc : α → Value} {W W' : World} {L L' : List Ent} {A : Option Addr} {xs : List α} (h : Sees enc W (ids L) A xs) (H : Heap W (ids L) L' W') : Sees enc W' (ids L') A xs := by
 have h2 := h.news (G := ids L ++ ids L') (fun i hi => by
  rcases List.mem_append.1 hi with h1 | h1
  ·exact .inl h1
  ·exact H.own i h1)
 exact (h2.later H.only (fun i hi => List.mem_append_left _ hi)).mono (fun i hi => List.mem_append_right _ hi)
theorem do_same (s : LdS) (k m a x : Int) (live : List Int) : decide ((ldDo s k m a x live).2 = (ldDo s k m a x live).2) = true := decide_eq_true rfl
theorem walk_LedgerPlays (A : Option Addr) (n c : Nat) (zs : List Int) (x : Option Addr × Nat × Nat × List LOp) (at_ : Int) (w : World) (hA : IsRow .i64 w A n c zs)
  (hx : ScriptLOp w x.1 x.2.2.2 ∧ x.2.2.2.length = x.2.1 ∧ x.2.1 ≤ 9223372036854775807 ∧ x.2.1 ≤ x.2.2.1) (wat : (Lit.int .i64 at_).wf = true) :
  Calls Try.prog 7 [.slice A n c, .slice x.1 x.2.1 x.2.2.1, .int .i64 at_].toArray w fun e w' => e = .returned (.bool true) ∧ Below w.heap.size w w' := by
 obtain ⟨B, l, d, ops⟩ := x
 obtain ⟨hs, hl, hn, hc⟩ := hx
 simp only at hs hl hn hc ⊢
 obtain ⟨hQ, hql, hqc, _, hqw⟩ := o_words hA
 obtain ⟨qs, hqs⟩ : ∃ qs, zs.take n = qs := ⟨_, rfl⟩
 rw [hqs] at hQ hql hqw
 have hqb : ∀ z ∈ qs, wfI z := fun z hz => wfI_of (hqw z hz)
 have ha := wfI_of wat
 have H := Heap.nil w
 by_cases hbig : 10 < n
 ·refine k_in (N := 89) Try.func7 rfl rfl rfl ?_
  refine k_sg ?_
  refine s_run rfl rfl (rab rfl) ?_
  refine k_nc ?_
  refine k_seq ?_
  refine k_sg ?_
  refine s_call rfl (awake49 _) (ca8 rfl) ?_
  rintro e W1 ⟨rfl, H'⟩
  refine ⟨_, rfl, ?_⟩
  have H := H.same H'; clear H'
  refine s_run rfl rfl (r_notT rfl) ?_
  refine k_nc ?_
  refine k_f rfl ?_
  refine k_skip ?_
  refine c_norm ?_
  refine k_seq ?_
  refine k_sg ?_
  refine s_run rfl rfl (rms rfl) ?_
  refine s_run rfl rfl (r_len rfl Try.underlying22) ?_
  refine s_run rfl rfl (r_gtrT rfl rfl (by omega)) ?_
  refine k_nc ?_
  refine k_t rfl ?_
  refine k_sg ?_
  refine s_run rfl rfl (rab rfl) ?_
  refine k_nc ?_
  refine k_ret ?_
  refine c_ret ?_
  refine fin1r (v := .bool _) rfl rfl ?_
  exact ⟨rfl, H.below⟩
 ·have hN := fun {W : World} h => oNewL A n c qs W (hQ.later h (fun _ h => h)) hql (by omega)
  have hR := fun {W : World} h => rNew A n c qs W (hQ.later h (fun _ h => h)) hql (by omega)
  refine k_in (N := 89) Try.func7 rfl rfl rfl ?_
  refine k_sg ?_
  refine s_run rfl rfl (rab rfl) ?_
  refine k_nc ?_
  refine k_seq ?_
  refine k_sg ?_
  refine s_call rfl (awake49 _) (ca8 rfl) ?_
  rintro e W1 ⟨rfl, H'⟩
  refine ⟨_, rfl, ?_⟩
  have H := H.same H'; clear H'
  refine s_run rfl rfl (r_notT rfl) ?_
  refine k_nc ?_
  refine k_f rfl ?_
  refine k_skip ?_
  refine c_norm ?_
  refine k_seq ?_
  refine k_sg ?_
  refine s_run rfl rfl (rms rfl) ?_
  refine s_run rfl rfl (r_len rfl Try.underlying22) ?_
  refine s_run rfl rfl (r_gtrF rfl rfl (by omega)) ?_
  refine k_nc ?_
  refine k_f rfl ?_
  refine k_skip ?_
  refine c_norm ?_
  refine k_sg ?_
  refine s_run rfl rfl (rms rfl) ?_
  refine s_call rfl (hN H.only) (ca9 rfl) ?_
  rintro e W1 ⟨p, b, rfl, H'⟩
  refine ⟨_, rfl, ?_⟩
  have H := H.more (A := [grp _]) (grp_heap H'); clear H'; simp only [List.cons_append, List.nil_append] at H
  refine s_run rfl rfl (rms rfl) ?_
  refine s_call rfl (hR H.only) (ca11 rfl) ?_
  rintro e W1 ⟨rfl, H'⟩
  refine ⟨_, rfl, ?_⟩
  have H := H.same H'; clear H'
  refine s_al H rfl inf31 ?_
  intro p8 _ H'; clear H; have H := H'; clear H'
  refine s_run rfl rfl (rap rfl) ?_
  refine s_sw H 0 rfl rfl rfl rfl rfl rfl rfl sz31 ?_
  clear H; intro _ H; simp only [jA, jB, jC, jD, jE, jF, jG, jH, jI, jJ, jK, Nat.reduceAdd] at H
  refine k_nc ?_
  refine k_seq ?_
  refine k_sg ?_
  refine s_run rfl rfl (rmp rfl) ?_
  refine s_run rfl rfl (r_ptnilF rfl rfl Try.underlying26) ?_
  refine k_nc ?_
  refine k_f rfl ?_
  refine k_skip ?_
  refine c_norm ?_
  refine k_seq ?_
  refine k_sg ?_
  refine s_run rfl rfl (rai rfl) ?_
  refine k_nc ?_
  refine k_cut (fun f W => ∃ (i : Nat) (s : LdS) (DA : Option Addr) (dn dc : Nat), i ≤ 80 ∧ LdOk i s ∧ DocOk [] W DA dn dc s ∧ f 2 = .int .i64 at_ ∧ f 7 = ptrL p ∧ f 8 = ptrL p8 ∧ Heap w [] [blk p8 (docC DA dn dc s.q s.pk s.tk) 31, grp (ldE p b s)] W) ?_ ?_
  rotate_left
  ·clear H
   rintro f W ⟨i, s, DA, dn, dc, hi80, hok, hD0, f2, f7, f8, HB⟩
   obtain ⟨f, rfl⟩ := live3 f2 f7 f8
   clear f2 f7 f8
   have hEl := fun {W2 : World} (h : Only [] W W2) => (HB.same h).grp_ents 1 rfl
   have oO := fun {W2 : World} (h : Only [] W W2) => oOwners p b s at_ W2 (hEl h) ha
   have hSh := fun {W2 : World} (h : Only [] W W2) => lShows p b s i DA dn dc W2 (hEl h) (hD0.later h (by simp)) hok (by omega)
   have dA := fun {L} {W2 : World} (H : Heap W [] L W2) m => rAll (hD0.on H (by simp)) (on_lt (by simp) H) hok (by omega) m
   have hIn := fun {A2 B2 c2 d2} (l : List Int) {W : World} h1 h2 h3 => rIntsT A2 B2 l.length c2 d2 l W h1 h2 rfl h3
   have hLn := hok.len
   unfold docV at hSh dA
   have H := Heap.nil W
   refine c_norm ?_
   refine k_sg ?_
   refine s_run rfl rfl (ras rfl) ?_
   refine k_nc ?_
   refine k_seq ?_
   refine k_sg ?_
   refine s_run rfl rfl (rai rfl) ?_
   refine k_nc ?_
   refine k_b ?_
   replace H := H.own_nil 1 3
   refine k_loop (fun z f W2 => ∃ (k : Nat) (OA : Option Addr) (oc : Nat) (out : List Int), k ≤ 4 ∧ z = 4 - k ∧ out = ownersTo s.L at_ k ∧ f 2 = .int .i64 at_ ∧ f 7 = ptrL p ∧ f 8 = ptrL p8 ∧ f 12 = .slice OA out.length oc ∧ f 13 = .int .i64 k ∧ Heap W [] [ownN 1 (.slice OA out.length oc) out.length (out.map (Value.int .i64)) 3] W2) 4 ⟨0, none, 0, [], by omega, rfl, rfl, rfl, rfl, rfl, rfl, rfl, H⟩ ?_
   clear H
   rintro z f W2 ⟨k, OA, oc, out, hk, rfl, hout, f2, f7, f8, f12, f13, H⟩
   have hol := ownersTo_len s.L at_ k
   rw [← hout] at hol
   obtain ⟨f, rfl⟩ := live5 f2 f7 f8 f12 f13
   clear f2 f7 f8 f12 f13
   by_cases hk4 : k < 4
   ·have hmem := atsOf_mem hok k at_
    have hnd := atsOf_nd hok k
    have hst := ownersTo_succ s.L at_ k
    rw [← hout] at hst
    have hRl := srt_len (atsOf s.L k)
    have hRl2 := atsOf_len s.L k
    have dAk := fun {L} {W2 : World} (H : Heap W [] L W2) => dA H k
    rw [← hRl] at dAk
    obtain ⟨R, hR⟩ : ∃ R, srt (atsOf s.L k) = R := ⟨_, rfl⟩
    rw [hR] at dAk hmem hnd hRl
    refine k_seq ?_
    refine k_sg ?_
    refine s_run rfl rfl (rmi rfl) ?_
    refine s_run rfl rfl (r_lssT rfl rfl (by omega)) ?_
    refine k_nc ?_
    refine k_t rfl ?_
    refine k_skip ?_
    refine c_norm ?_
    refine k_seq ?_
    refine k_b ?_
    refine k_sg ?_
    refine s_run rfl rfl (r_la (HB.same H.only) 0 rfl rfl rfl ag31 sz31) ?_
    refine s_run rfl rfl (rmi rfl) ?_
    refine s_call rfl (dAk H) (ca32 rfl) ?_
    rintro e W1 ⟨QA, qc, rfl, hQ0, hqc, H'⟩
    refine ⟨_, rfl, ?_⟩
    have H := H.same H'; clear H'
    refine s_run rfl rfl (ras rfl) ?_
    refine k_nc ?_
    refine k_sg ?_
    refine s_run rfl rfl (rai rfl) ?_
    refine k_nc ?_
    refine k_b ?_
    replace hQ0 := hQ0.mono (G := ids [ownN 1 (.slice OA out.length oc) out.length (out.map (Value.int .i64)) 3]) (fun j hj => List.mem_append_right _ hj)
    refine k_loop (fun z f W2 => ∃ (j : Nat) (OA : Option Addr) (oc : Nat) (out2 : List Int), j ≤ R.length ∧ z = R.length - j ∧ out2 = out ++ (if at_ ∈ R.take j then [(k : Int)] else []) ∧ Sees (Value.int .i64) W2 (ids [ownN 1 (.slice OA out2.length oc) out2.length (out2.map (Value.int .i64)) 3]) QA R ∧ f 2 = .int .i64 at_ ∧ f 7 = ptrL p ∧ f 8 = ptrL p8 ∧ f 12 = .slice OA out2.length oc ∧ f 13 = .int .i64 k ∧ f 14 = .slice QA R.length qc ∧ f 15 = .int .i64 j ∧ Heap W [] [ownN 1 (.slice OA out2.length oc) out2.length (out2.map (Value.int .i64)) 3] W2) R.length ⟨0, OA, oc, out, by omega, rfl, by simp, hQ0, rfl, rfl, rfl, rfl, rfl, rfl, rfl, H⟩ ?_
    clear H hQ0
    rintro z f W2 ⟨j, OA, oc, out2, hj, rfl, ho2, hQ, f2, f7, f8, f12, f13, f14, f15, H0⟩
    have ho2l : out2.length ≤ out.length + 1 := by rw [ho2]; split <;> simp
    by_cases hjl : j < R.length
    ·obtain ⟨y, hy⟩ : ∃ y, R[j]? = some y := ⟨_, List.getElem?_eq_getElem hjl⟩
     obtain ⟨bq, oq, hQA, hbq, hqr⟩ := hQ (by omega)
     have hcy := hqr j y hy
     have hfr : y ∉ R.take j := fun hm => by
      obtain ⟨i2, hi2⟩ := List.mem_iff_getElem?.1 hm
      rw [List.getElem?_take] at hi2
      split at hi2
      ·rename_i hij
       obtain ⟨h1, e1⟩ := List.getElem?_eq_some_iff.1 hi2
       obtain ⟨h2, e2⟩ := List.getElem?_eq_some_iff.1 hy
       have := List.pairwise_iff_getElem.1 hnd i2 j h1 h2 hij
       rw [e1, e2] at this; exact this rfl
      ·cases hi2
     have H := Heap.start H0.ents
     rw [hQA] at f14
     obtain ⟨f, rfl⟩ := lv7 f2 f7 f8 f12 f13 f14 f15
     clear f2 f7 f8 f12 f13 f14 f15
     by_cases hya : y = at_
     ·have e3 : out ++ (if at_ ∈ R.take (j + 1) then [(k : Int)] else []) = out2 ++ [(k : Int)] := by
       rw [if_pos (show at_ ∈ R.take (j + 1) by rw [← tk_snoc hy, hya]; simp), ho2, if_neg (show ¬ at_ ∈ R.take j by rw [← hya]; exact hfr), List.append_nil]
      have hl1 : (out2 ++ [(k : Int)]).length = out2.length + 1 := by simp
      refine k_seq ?_
      refine k_sg ?_
      refine s_run rfl rfl (rmi rfl) ?_
      refine s_run rfl rfl (rms rfl) ?_
      refine s_run rfl rfl (r_len rfl Try.underlying22) ?_
      refine s_run rfl rfl (r_lssT rfl rfl (by omega)) ?_
      refine k_nc ?_
      refine k_t rfl ?_
      refine k_skip ?_
      refine c_norm ?_
      refine k_seq ?_
      refine k_b ?_
      refine k_sg ?_
      refine s_run rfl rfl (rms rfl) ?_
      refine s_run rfl rfl (rmi rfl) ?_
      refine s_run rfl rfl (r_ix1o (i := j) rfl rfl (by omega) (by omega) Try.underlying22 sz3) ?_
      refine s_run rfl rfl (r_lr H rfl hcy hbq ag3) ?_
      refine s_run rfl rfl (rmi rfl) ?_
      refine s_run rfl rfl (r_eqlT rfl rfl (by omega)) ?_
      refine k_nc ?_
      refine k_t rfl ?_
      refine k_rg ?_
      refine s_run rfl rfl (rms rfl) ?_
      refine s_run rfl rfl (rmi rfl) ?_
      refine s_app1 (enc := (Value.int .i64)) H 0 rfl rfl rfl rfl rfl rfl rfl (by omega) Try.underlying22 inf3 rfl ?_
      intro _ An cn _ H'; simp only [List.set_cons_zero, List.set_cons_succ, List.take_succ_cons, List.take_zero, List.drop_succ_cons, List.drop_zero, List.cons_append, List.nil_append, List.append_nil, List.length_cons, List.length_nil, Nat.reduceAdd] at H'; clear H; have H := H'; clear H'
      refine s_run rfl rfl (ras rfl) ?_
      refine k_nil ?_
      refine b_norm ?_
      refine c_norm ?_
      refine k_rg ?_
      refine s_run rfl rfl (rmi rfl) ?_
      refine s_run rfl rfl (r_add rfl rfl (wI (by omega))) ?_
      refine s_run rfl rfl (rai rfl) ?_
      refine k_nil ?_
      refine c_round ?_
      rw [← hl1] at H
      refine ⟨_, _, ?_, rfl, j + 1, An, cn, out2 ++ [(k : Int)], by omega, rfl, e3.symm, sees_on1 hQ H, rfl, rfl, rfl, by rw [hl1]; rfl, rfl, by rw [hQA]; rfl, rfl, H0.whole H⟩
      omega
     ·have e3 : out ++ (if at_ ∈ R.take (j + 1) then [(k : Int)] else []) = out2 := by
       rw [ho2, ← tk_snoc hy]
       have : at_ ≠ y := fun e => hya e.symm
       simp [this]
      refine k_seq ?_
      refine k_sg ?_
      refine s_run rfl rfl (rmi rfl) ?_
      refine s_run rfl rfl (rms rfl) ?_
      refine s_run rfl rfl (r_len rfl Try.underlying22) ?_
      refine s_run rfl rfl (r_lssT rfl rfl (by omega)) ?_
      refine k_nc ?_
      refine k_t rfl ?_
      refine k_skip ?_
      refine c_norm ?_
      refine k_seq ?_
      refine k_b ?_
      refine k_sg ?_
      refine s_run rfl rfl (rms rfl) ?_
      refine s_run rfl rfl (rmi rfl) ?_
      refine s_run rfl rfl (r_ix1o (i := j) rfl rfl (by omega) (by omega) Try.underlying22 sz3) ?_
      refine s_run rfl rfl (r_lr H rfl hcy hbq ag3) ?_
      refine s_run rfl rfl (rmi rfl) ?_
      refine s_run rfl rfl (r_eqlF rfl rfl (by omega)) ?_
      refine k_nc ?_
      refine k_f rfl ?_
      refine k_skip ?_
      refine b_norm ?_
      refine c_norm ?_
      refine k_rg ?_
      refine s_run rfl rfl (rmi rfl) ?_
      refine s_run rfl rfl (r_add rfl rfl (wI (by omega))) ?_
      refine s_run rfl rfl (rai rfl) ?_
      refine k_nil ?_
      refine c_round ?_
      refine ⟨_, _, ?_, rfl, j + 1, OA, oc, out2, by omega, rfl, e3.symm, sees_on1 hQ H, rfl, rfl, rfl, rfl, rfl, by rw [hQA]; rfl, rfl, H0.whole H⟩
      omega
    ·obtain rfl : j = R.length := by omega
     rw [List.take_length] at ho2
     have e4 : ownersTo s.L at_ (k + 1) = out2 := by
      rw [hst, ho2]
      by_cases hm : at_ ∈ R
      ·rw [if_pos hm, if_pos (hmem.1 hm)]
      ·rw [if_neg hm, if_neg (fun h => hm (hmem.2 h))]
     have H := H0
     obtain ⟨f, rfl⟩ := lv7 f2 f7 f8 f12 f13 f14 f15
     clear f2 f7 f8 f12 f13 f14 f15
     refine k_seq ?_
     refine k_sg ?_
     refine s_run rfl rfl (rmi rfl) ?_
     refine s_run rfl rfl (rms rfl) ?_
     refine s_run rfl rfl (r_len rfl Try.underlying22) ?_
     refine s_run rfl rfl (r_lssF rfl rfl (by omega)) ?_
     refine k_nc ?_
     refine k_f rfl ?_
     refine k_exit ?_
     refine c_exit ?_
     refine c_exit ?_
     refine b_hit ?_
     refine b_norm ?_
     refine c_norm ?_
     refine k_rg ?_
     refine s_run rfl rfl (rmi rfl) ?_
     refine s_run rfl rfl (r_add rfl rfl (wI (by omega))) ?_
     refine s_run rfl rfl (rai rfl) ?_
     refine k_nil ?_
     refine c_round ?_
     refine ⟨_, _, ?_, rfl, k + 1, OA, oc, out2, by omega, rfl, e4.symm, rfl, rfl, rfl, rfl, rfl, H⟩
     omega
   ·obtain rfl : k = 4 := by omega
    subst hout
    have hIn := fun {A2 B2 c2 d2} {W : World} h1 h2 => hIn (A2 := A2) (B2 := B2) (c2 := c2) (d2 := d2) (ownersTo s.L at_ 4) (W := W) h1 h2 (by omega)
    refine k_seq ?_
    refine k_sg ?_
    refine s_run rfl rfl (rmi rfl) ?_
    refine s_run rfl rfl (r_lssF rfl rfl (by omega)) ?_
    refine k_nc ?_
    refine k_f rfl ?_
    refine k_exit ?_
    refine c_exit ?_
    refine c_exit ?_
    refine b_hit ?_
    refine c_norm ?_
    refine k_sg ?_
    refine s_run rfl rfl (rmp rfl) ?_
    refine s_run rfl rfl (rmi rfl) ?_
    refine s_call rfl (oO H.only) (ca33 rfl) ?_
    rintro e W1 ⟨PA, pc, rfl, H'⟩
    refine ⟨_, rfl, ?_⟩
    have H := H.more H'; clear H'; simp only [List.cons_append, List.nil_append] at H
    refine s_run rfl rfl (rms rfl) ?_
    refine s_call rfl (hIn (H.own_sees 0 rfl) (H.own_sees 1 rfl)) (ca20 rfl) ?_
    rintro e W1 ⟨rfl, H'⟩
    refine ⟨_, rfl, ?_⟩
    have H := H.same H'; clear H'
    refine s_run rfl rfl (rmb rfl) ?_
    refine s_run rfl (g_on 84 (by kernel_rfl) rfl) (rmp rfl) ?_
    refine s_run rfl (g_on 84 (by kernel_rfl) rfl) (r_la (HB.same H.only) 0 rfl rfl rfl ag31 sz31) ?_
    refine s_call (g_on 84 (by kernel_rfl) rfl) (hSh H.only) (ca31 rfl) ?_
    rintro e W1 ⟨rfl, H'⟩
    refine ⟨_, rfl, ?_⟩
    have H := H.same H'; clear H'
    refine s_run rfl rfl (r_pkT (v := .bool _) rfl rfl) ?_
    refine s_run rfl rfl (rab rfl) ?_
    refine k_nc ?_
    refine k_ret ?_
    refine fin1r (v := .bool _) rfl rfl ?_
    exact ⟨rfl, (HB.same H.only).below⟩
  refine k_b ?_
  have hok0 := ldNew_ok qs hqb
  refine k_loop (fun z f W => ∃ (i : Nat) (s : LdS) (DA : Option Addr) (dn dc : Nat), i ≤ l ∧ i ≤ 80 ∧ z = l - i ∧ LdOk i s ∧ DocOk (ids [blk p8 (docC DA dn dc s.q s.pk s.tk) 31, grp (ldE p b s)]) W DA dn dc s ∧ f 1 = .slice B l d ∧ f 2 = .int .i64 at_ ∧ f 7 = ptrL p ∧ f 8 = ptrL p8 ∧ f 9 = .int .i64 i ∧ Heap w [] [blk p8 (docC DA dn dc s.q s.pk s.tk) 31, grp (ldE p b s)] W) l ⟨0, ldNew qs, none, 0, 0, by omega, by omega, rfl, hok0, ⟨Sees.nil, rfl, by omega⟩, rfl, rfl, rfl, rfl, rfl, H⟩ ?_
  clear H
  rintro z f W ⟨i, s, DA, dn, dc, hi, hi80, rfl, hok, hD, f1, f2, f7, f8, f9, HB⟩
  have hIK : ∀ j ∈ ids (ldE p b s), j ∈ ids [blk p8 (docC DA dn dc s.q s.pk s.tk) 31, grp (ldE p b s)] := fun j hj => by
   simp only [ids, List.flatMap_cons, List.flatMap_nil, List.append_nil, grp] at hj ⊢
   exact List.mem_append_right _ hj
  by_cases hlt : i < l ∧ i < 80
  ·obtain ⟨hlt, hlt2⟩ := hlt
   obtain ⟨u, hu⟩ : ∃ u, ops[i]? = some u := ⟨_, List.getElem?_eq_getElem (by omega)⟩
   obtain ⟨bo, oo, hB, hrd⟩ := hs.1 (by omega)
   have hre : Reads (fun v : Value => v) W bo (oo + i * 5) [.int .i64 u.f0, .int .i64 u.f1, .int .i64 u.f2, .int .i64 u.f3, .slice u.A4 u.n4 u.c4] := (hrd i u hu).later HB.only (by simp)
   have hu2 := hs.2 u (List.mem_of_getElem? hu)
   have hSl : Sees (Value.int .i64) W (ids [blk p8 (docC DA dn dc s.q s.pk s.tk) 31, grp (ldE p b s)]) u.A4 u.xs4 := (hu2.s4.news (G := ids [blk p8 (docC DA dn dc s.q s.pk s.tk) 31, grp (ldE p b s)]) (fun j hj => .inr ((HB.own j hj).resolve_left (by simp)))).later HB.only (fun _ h => by cases h)
   have hbo : bo ∉ ids [blk p8 (docC DA dn dc s.q s.pk s.tk) 31, grp (ldE p b s)] := fun hm => by
    have h1 := cell_lt (hrd i u hu 0 _ rfl)
    rcases HB.own bo hm with h | h
    ·simp at h
    ·simp at h1; omega
   have hDo := fun {L} {W2 : World} (H : Heap W (ids [blk p8 (docC DA dn dc s.q s.pk s.tk) 31, grp (ldE p b s)]) L W2) hE hI => lDo (I := ids (ldE p b s)) (K := ids [blk p8 (docC DA dn dc s.q s.pk s.tk) 31, grp (ldE p b s)] ++ ids L) p b s s i i DA dn dc u.f0 u.f1 u.f2 u.f3 u.A4 u.n4 u.c4 u.xs4 W2 hE rfl (fun j hj => List.mem_append_left _ (hIK j hj)) (on_lt HB.idlt H) (hD.on H (fun _ h => h)) hok hok (by omega) (by omega) (wfI_of hu2.w2) hI hu2.l4 (fun z hz => wfI_of (hu2.b4 z hz))
   have hok2 := hok.doK u.f0 u.f1 u.f2 u.f3 u.xs4 (wfI_of hu2.w2)
   simp only [do_same] at hDo
   obtain ⟨s2, hs2⟩ : ∃ s2, (ldDo s u.f0 u.f1 u.f2 u.f3 u.xs4).1 = s2 := ⟨_, rfl⟩
   rw [hs2] at hDo hok2
   rw [hB] at f1
   obtain ⟨f, rfl⟩ := live5 f1 f2 f7 f8 f9
   clear f1 f2 f7 f8 f9
   have H := Heap.start HB.ents
   unfold docV at hDo
   refine k_seq ?_
   refine k_sg ?_
   refine s_run rfl rfl (rmi rfl) ?_
   refine s_run rfl rfl (rms rfl) ?_
   refine s_run rfl rfl (r_len rfl Try.underlying23) ?_
   refine s_run rfl rfl (r_lssT rfl rfl (by omega)) ?_
   refine s_run rfl rfl (rmb rfl) ?_
   refine s_run rfl (g_on 31 (by kernel_rfl) rfl) (rmi rfl) ?_
   refine s_run rfl (g_on 31 (by kernel_rfl) rfl) (r_lssT rfl rfl (by omega)) ?_
   refine s_run rfl rfl (r_pkT (v := .bool _) rfl rfl) ?_
   refine k_nc ?_
   refine k_t rfl ?_
   refine k_skip ?_
   refine c_norm ?_
   refine k_seq ?_
   refine k_b ?_
   refine k_seq ?_
   refine k_cut (fun f W2 => ∃ p10 A2 n2 c2, f 1 = .slice (some ⟨bo, oo, none⟩) l d ∧ f 2 = .int .i64 at_ ∧ f 7 = ptrL p ∧ f 8 = ptrL p8 ∧ f 9 = .int .i64 i ∧ f 10 = ptrL p10 ∧ f 11 = .bool true ∧ DocOk (ids [blk p10 (docC A2 n2 c2 s2.q s2.pk s2.tk) 31, blk p8 (docC DA dn dc s.q s.pk s.tk) 31, grp (ldE p b s2)]) W2 A2 n2 c2 s2 ∧ Heap w [] [blk p10 (docC A2 n2 c2 s2.q s2.pk s2.tk) 31, blk p8 (docC DA dn dc s.q s.pk s.tk) 31, grp (ldE p b s2)] W2) ?_ ?_
   ·refine k_trF mixed ?_; have H' := H.drew; clear H; have H := H'; clear H'
    refine tqn 0 rfl rfl rfl (fun _ hS => r_mv (v := .pointer _) rfl) trivial ?_
    refine tqn 2 rfl rfl rfl (fun _ hS => r_mv (v := .slice _ _ _) rfl) trivial ?_
    refine tqn 3 rfl rfl rfl (fun _ hS => r_mv (v := .int _ _) rfl) trivial ?_
    refine tqn 4 rfl rfl rfl (fun _ hS => r_ix (i := i) rfl rfl (by omega) (by omega) Try.underlying23 sz36) trivial ?_
    refine t_up3 1 5 10 (by kernel_rfl) ?_ ?_ ?_
    ·refine up_mk rfl ?_
     refine s_run rfl rfl (r_la H 0 rfl rfl rfl ag31 sz31) ?_
     refine k_nil ?_
     refine t_on trivial ?_
     refine t_up2 5 10 (by kernel_rfl) ?_ ?_
     ·refine up_mk rfl ?_
      refine s_run rfl rfl (r_lA (enc := fun v : Value => v) (zs := [.int .i64 u.f0, .int .i64 u.f1, .int .i64 u.f2, .int .i64 u.f3, .slice u.A4 u.n4 u.c4]) (hre.later H.only hbo) rfl rfl ag36 sz36) ?_
      refine k_nil ?_
      refine t_on trivial ?_
      refine t_up2 6 10 (by kernel_rfl) ?_ ?_
      ·refine up_mk rfl ?_
       refine s_call rfl (hDo H (H.grp_ents 1 rfl) ((hSl.later H.only (fun _ h => h)).mono hIK)) (ca10 rfl) ?_
       rintro e W1 ⟨A2, n2, c2, rfl, hD2, H'⟩
       refine ⟨_, rfl, ?_⟩
       have H2 := H.grp_at 1 rfl H'; clear H'; have HB2 := HB.whole H2; clear HB H; have H := Heap.start HB2.ents; clear H2; simp only [List.set_cons_zero, List.set_cons_succ] at H HB2
       refine k_nil ?_
       refine t_on trivial ?_
       refine tqn 7 rfl rfl rfl (fun _ hS => r_mv (v := .tuple _) rfl) trivial ?_
       refine tqn 8 rfl rfl rfl (fun _ hS => r_ext (v := .agg _) rfl rfl) trivial ?_
       refine tqn 9 rfl rfl rfl (fun _ hS => r_ext (v := .bool _) rfl rfl) trivial ?_
       refine t_up1 10 (by kernel_rfl) ?_
       refine up_mk rfl ?_
       refine s_al H rfl inf31 ?_
       intro p10 _ H'; clear H; have H := H'; clear H'
       refine k_nil ?_
       refine t_on trivial ?_
       refine t_up1 11 (by kernel_rfl) ?_
       refine up_mk rfl ?_
       refine s_sw H 0 rfl rfl rfl rfl rfl rfl rfl sz31 ?_
       clear H; intro _ H; simp only [jA, jB, jC, jD, jE, jF, jG, jH, jI, jJ, jK, Nat.reduceAdd] at H
       refine k_nil ?_
       refine t_on trivial ?_
       refine tqn 12 rfl rfl rfl (fun _ hS => r_as (v := .bool _) rfl) trivial ?_
       refine t_done (by kernel_rfl) ?_
       refine k_met ?_
       exact ⟨_, A2, n2, c2, rfl, rfl, rfl, rfl, rfl, rfl, rfl, (hD2.on H (fun j hj => List.mem_append_right _ hj)).mono (fun j hj => List.mem_append_right _ hj), HB2.whole H⟩
      ·refine up_mk rfl ?_
       refine s_al H rfl inf31 ?_
       intro p10 _ H'; clear H; have H := H'; clear H'
       refine k_nil ?_
       refine t_on trivial ?_
       refine t_up1 6 (by kernel_rfl) ?_
       refine up_mk rfl ?_
       refine s_call rfl (hDo H (H.grp_ents 2 rfl) ((hSl.later H.only (fun _ h => h)).mono hIK)) (ca10 rfl) ?_
       rintro e W1 ⟨A2, n2, c2, rfl, hD2, H'⟩
       refine ⟨_, rfl, ?_⟩
       have H2 := H.grp_at 2 rfl H'; clear H'; have HB2 := HB.whole H2; clear HB H; have H := Heap.start HB2.ents; clear H2; simp only [List.set_cons_zero, List.set_cons_succ] at H HB2
       refine k_nil ?_
       refine t_on trivial ?_
       refine tqn 7 rfl rfl rfl (fun _ hS => r_mv (v := .tuple _) rfl) trivial ?_
       refine tqn 8 rfl rfl rfl (fun _ hS => r_ext (v := .agg _) rfl rfl) trivial ?_
       refine tqn 9 rfl rfl rfl (fun _ hS => r_ext (v := .bool _) rfl rfl) trivial ?_
       refine t_up1 11 (by kernel_rfl) ?_
       refine up_mk rfl ?_
       refine s_sw H 0 rfl rfl rfl rfl rfl rfl rfl sz31 ?_
       clear H; intro _ H; simp only [jA, jB, jC, jD, jE, jF, jG, jH, jI, jJ, jK, Nat.reduceAdd] at H
       refine k_nil ?_
       refine t_on trivial ?_
       refine tqn 12 rfl rfl rfl (fun _ hS => r_as (v := .bool _) rfl) trivial ?_
       refine t_done (by kernel_rfl) ?_
       refine k_met ?_
       exact ⟨_, A2, n2, c2, rfl, rfl, rfl, rfl, rfl, rfl, rfl, (hD2.on H (fun j hj => List.mem_append_right _ hj)).mono (fun j hj => List.mem_append_right _ hj), HB2.whole H⟩
     ·refine up_mk rfl ?_
      refine s_al H rfl inf31 ?_
      intro p10 _ H'; clear H; have H := H'; clear H'
      refine k_nil ?_
      refine t_on trivial ?_
      refine t_up1 5 (by kernel_rfl) ?_
      refine up_mk rfl ?_
      refine s_run rfl rfl (r_lA (enc := fun v : Value => v) (zs := [.int .i64 u.f0, .int .i64 u.f1, .int .i64 u.f2, .int .i64 u.f3, .slice u.A4 u.n4 u.c4]) (hre.later H.only hbo) rfl rfl ag36 sz36) ?_
      refine k_nil ?_
      refine t_on trivial ?_
      refine t_up1 6 (by kernel_rfl) ?_
      refine up_mk rfl ?_
      refine s_call rfl (hDo H (H.grp_ents 2 rfl) ((hSl.later H.only (fun _ h => h)).mono hIK)) (ca10 rfl) ?_
      rintro e W1 ⟨A2, n2, c2, rfl, hD2, H'⟩
      refine ⟨_, rfl, ?_⟩
      have H2 := H.grp_at 2 rfl H'; clear H'; have HB2 := HB.whole H2; clear HB H; have H := Heap.start HB2.ents; clear H2; simp only [List.set_cons_zero, List.set_cons_succ] at H HB2
      refine k_nil ?_
      refine t_on trivial ?_
      refine tqn 7 rfl rfl rfl (fun _ hS => r_mv (v := .tuple _) rfl) trivial ?_
      refine tqn 8 rfl rfl rfl (fun _ hS => r_ext (v := .agg _) rfl rfl) trivial ?_
      refine tqn 9 rfl rfl rfl (fun _ hS => r_ext (v := .bool _) rfl rfl) trivial ?_
      refine t_up1 11 (by kernel_rfl) ?_
      refine up_mk rfl ?_
      refine s_sw H 0 rfl rfl rfl rfl rfl rfl rfl sz31 ?_
      clear H; intro _ H; simp only [jA, jB, jC, jD, jE, jF, jG, jH, jI, jJ, jK, Nat.reduceAdd] at H
      refine k_nil ?_
      refine t_on trivial ?_
      refine tqn 12 rfl rfl rfl (fun _ hS => r_as (v := .bool _) rfl) trivial ?_
      refine t_done (by kernel_rfl) ?_
      refine k_met ?_
      exact ⟨_, A2, n2, c2, rfl, rfl, rfl, rfl, rfl, rfl, rfl, (hD2.on H (fun j hj => List.mem_append_right _ hj)).mono (fun j hj => List.mem_append_right _ hj), HB2.whole H⟩
    ·refine up_mk rfl ?_
     refine s_run rfl rfl (r_lA (enc := fun v : Value => v) (zs := [.int .i64 u.f0, .int .i64 u.f1, .int .i64 u.f2, .int .i64 u.f3, .slice u.A4 u.n4 u.c4]) (hre.later H.only hbo) rfl rfl ag36 sz36) ?_
     refine k_nil ?_
     refine t_on trivial ?_
     refine t_up2 1 10 (by kernel_rfl) ?_ ?_
     ·refine up_mk rfl ?_
      refine s_run rfl rfl (r_la H 0 rfl rfl rfl ag31 sz31) ?_
      refine k_nil ?_
      refine t_on trivial ?_
      refine t_up2 6 10 (by kernel_rfl) ?_ ?_
      ·refine up_mk rfl ?_
       refine s_call rfl (hDo H (H.grp_ents 1 rfl) ((hSl.later H.only (fun _ h => h)).mono hIK)) (ca10 rfl) ?_
       rintro e W1 ⟨A2, n2, c2, rfl, hD2, H'⟩
       refine ⟨_, rfl, ?_⟩
       have H2 := H.grp_at 1 rfl H'; clear H'; have HB2 := HB.whole H2; clear HB H; have H := Heap.start HB2.ents; clear H2; simp only [List.set_cons_zero, List.set_cons_succ] at H HB2
       refine k_nil ?_
       refine t_on trivial ?_
       refine tqn 7 rfl rfl rfl (fun _ hS => r_mv (v := .tuple _) rfl) trivial ?_
       refine tqn 8 rfl rfl rfl (fun _ hS => r_ext (v := .agg _) rfl rfl) trivial ?_
       refine tqn 9 rfl rfl rfl (fun _ hS => r_ext (v := .bool _) rfl rfl) trivial ?_
       refine t_up1 10 (by kernel_rfl) ?_
       refine up_mk rfl ?_
       refine s_al H rfl inf31 ?_
       intro p10 _ H'; clear H; have H := H'; clear H'
       refine k_nil ?_
       refine t_on trivial ?_
       refine t_up1 11 (by kernel_rfl) ?_
       refine up_mk rfl ?_
       refine s_sw H 0 rfl rfl rfl rfl rfl rfl rfl sz31 ?_
       clear H; intro _ H; simp only [jA, jB, jC, jD, jE, jF, jG, jH, jI, jJ, jK, Nat.reduceAdd] at H
       refine k_nil ?_
       refine t_on trivial ?_
       refine tqn 12 rfl rfl rfl (fun _ hS => r_as (v := .bool _) rfl) trivial ?_
       refine t_done (by kernel_rfl) ?_
       refine k_met ?_
       exact ⟨_, A2, n2, c2, rfl, rfl, rfl, rfl, rfl, rfl, rfl, (hD2.on H (fun j hj => List.mem_append_right _ hj)).mono (fun j hj => List.mem_append_right _ hj), HB2.whole H⟩
      ·refine up_mk rfl ?_
       refine s_al H rfl inf31 ?_
       intro p10 _ H'; clear H; have H := H'; clear H'
       refine k_nil ?_
       refine t_on trivial ?_
       refine t_up1 6 (by kernel_rfl) ?_
       refine up_mk rfl ?_
       refine s_call rfl (hDo H (H.grp_ents 2 rfl) ((hSl.later H.only (fun _ h => h)).mono hIK)) (ca10 rfl) ?_
       rintro e W1 ⟨A2, n2, c2, rfl, hD2, H'⟩
       refine ⟨_, rfl, ?_⟩
       have H2 := H.grp_at 2 rfl H'; clear H'; have HB2 := HB.whole H2; clear HB H; have H := Heap.start HB2.ents; clear H2; simp only [List.set_cons_zero, List.set_cons_succ] at H HB2
       refine k_nil ?_
       refine t_on trivial ?_
       refine tqn 7 rfl rfl rfl (fun _ hS => r_mv (v := .tuple _) rfl) trivial ?_
       refine tqn 8 rfl rfl rfl (fun _ hS => r_ext (v := .agg _) rfl rfl) trivial ?_
       refine tqn 9 rfl rfl rfl (fun _ hS => r_ext (v := .bool _) rfl rfl) trivial ?_
       refine t_up1 11 (by kernel_rfl) ?_
       refine up_mk rfl ?_
       refine s_sw H 0 rfl rfl rfl rfl rfl rfl rfl sz31 ?_
       clear H; intro _ H; simp only [jA, jB, jC, jD, jE, jF, jG, jH, jI, jJ, jK, Nat.reduceAdd] at H
       refine k_nil ?_
       refine t_on trivial ?_
       refine tqn 12 rfl rfl rfl (fun _ hS => r_as (v := .bool _) rfl) trivial ?_
       refine t_done (by kernel_rfl) ?_
       refine k_met ?_
       exact ⟨_, A2, n2, c2, rfl, rfl, rfl, rfl, rfl, rfl, rfl, (hD2.on H (fun j hj => List.mem_append_right _ hj)).mono (fun j hj => List.mem_append_right _ hj), HB2.whole H⟩
     ·refine up_mk rfl ?_
      refine s_al H rfl inf31 ?_
      intro p10 _ H'; clear H; have H := H'; clear H'
      refine k_nil ?_
      refine t_on trivial ?_
      refine t_up1 1 (by kernel_rfl) ?_
      refine up_mk rfl ?_
      refine s_run rfl rfl (r_la H 1 rfl rfl rfl ag31 sz31) ?_
      refine k_nil ?_
      refine t_on trivial ?_
      refine t_up1 6 (by kernel_rfl) ?_
      refine up_mk rfl ?_
      refine s_call rfl (hDo H (H.grp_ents 2 rfl) ((hSl.later H.only (fun _ h => h)).mono hIK)) (ca10 rfl) ?_
      rintro e W1 ⟨A2, n2, c2, rfl, hD2, H'⟩
      refine ⟨_, rfl, ?_⟩
      have H2 := H.grp_at 2 rfl H'; clear H'; have HB2 := HB.whole H2; clear HB H; have H := Heap.start HB2.ents; clear H2; simp only [List.set_cons_zero, List.set_cons_succ] at H HB2
      refine k_nil ?_
      refine t_on trivial ?_
      refine tqn 7 rfl rfl rfl (fun _ hS => r_mv (v := .tuple _) rfl) trivial ?_
      refine tqn 8 rfl rfl rfl (fun _ hS => r_ext (v := .agg _) rfl rfl) trivial ?_
      refine tqn 9 rfl rfl rfl (fun _ hS => r_ext (v := .bool _) rfl rfl) trivial ?_
      refine t_up1 11 (by kernel_rfl) ?_
      refine up_mk rfl ?_
      refine s_sw H 0 rfl rfl rfl rfl rfl rfl rfl sz31 ?_
      clear H; intro _ H; simp only [jA, jB, jC, jD, jE, jF, jG, jH, jI, jJ, jK, Nat.reduceAdd] at H
      refine k_nil ?_
      refine t_on trivial ?_
      refine tqn 12 rfl rfl rfl (fun _ hS => r_as (v := .bool _) rfl) trivial ?_
      refine t_done (by kernel_rfl) ?_
      refine k_met ?_
      exact ⟨_, A2, n2, c2, rfl, rfl, rfl, rfl, rfl, rfl, rfl, (hD2.on H (fun j hj => List.mem_append_right _ hj)).mono (fun j hj => List.mem_append_right _ hj), HB2.whole H⟩
    ·refine up_mk rfl ?_
     refine s_al H rfl inf31 ?_
     intro p10 _ H'; clear H; have H := H'; clear H'
     refine k_nil ?_
     refine t_on trivial ?_
     refine t_up2 1 5 (by kernel_rfl) ?_ ?_
     ·refine up_mk rfl ?_
      refine s_run rfl rfl (r_la H 1 rfl rfl rfl ag31 sz31) ?_
      refine k_nil ?_
      refine t_on trivial ?_
      refine t_up1 5 (by kernel_rfl) ?_
      refine up_mk rfl ?_
      refine s_run rfl rfl (r_lA (enc := fun v : Value => v) (zs := [.int .i64 u.f0, .int .i64 u.f1, .int .i64 u.f2, .int .i64 u.f3, .slice u.A4 u.n4 u.c4]) (hre.later H.only hbo) rfl rfl ag36 sz36) ?_
      refine k_nil ?_
      refine t_on trivial ?_
      refine t_up1 6 (by kernel_rfl) ?_
      refine up_mk rfl ?_
      refine s_call rfl (hDo H (H.grp_ents 2 rfl) ((hSl.later H.only (fun _ h => h)).mono hIK)) (ca10 rfl) ?_
      rintro e W1 ⟨A2, n2, c2, rfl, hD2, H'⟩
      refine ⟨_, rfl, ?_⟩
      have H2 := H.grp_at 2 rfl H'; clear H'; have HB2 := HB.whole H2; clear HB H; have H := Heap.start HB2.ents; clear H2; simp only [List.set_cons_zero, List.set_cons_succ] at H HB2
      refine k_nil ?_
      refine t_on trivial ?_
      refine tqn 7 rfl rfl rfl (fun _ hS => r_mv (v := .tuple _) rfl) trivial ?_
      refine tqn 8 rfl rfl rfl (fun _ hS => r_ext (v := .agg _) rfl rfl) trivial ?_
      refine tqn 9 rfl rfl rfl (fun _ hS => r_ext (v := .bool _) rfl rfl) trivial ?_
      refine t_up1 11 (by kernel_rfl) ?_
      refine up_mk rfl ?_
      refine s_sw H 0 rfl rfl rfl rfl rfl rfl rfl sz31 ?_
      clear H; intro _ H; simp only [jA, jB, jC, jD, jE, jF, jG, jH, jI, jJ, jK, Nat.reduceAdd] at H
      refine k_nil ?_
      refine t_on trivial ?_
      refine tqn 12 rfl rfl rfl (fun _ hS => r_as (v := .bool _) rfl) trivial ?_
      refine t_done (by kernel_rfl) ?_
      refine k_met ?_
      exact ⟨_, A2, n2, c2, rfl, rfl, rfl, rfl, rfl, rfl, rfl, (hD2.on H (fun j hj => List.mem_append_right _ hj)).mono (fun j hj => List.mem_append_right _ hj), HB2.whole H⟩
     ·refine up_mk rfl ?_
      refine s_run rfl rfl (r_lA (enc := fun v : Value => v) (zs := [.int .i64 u.f0, .int .i64 u.f1, .int .i64 u.f2, .int .i64 u.f3, .slice u.A4 u.n4 u.c4]) (hre.later H.only hbo) rfl rfl ag36 sz36) ?_
      refine k_nil ?_
      refine t_on trivial ?_
      refine t_up1 1 (by kernel_rfl) ?_
      refine up_mk rfl ?_
      refine s_run rfl rfl (r_la H 1 rfl rfl rfl ag31 sz31) ?_
      refine k_nil ?_
      refine t_on trivial ?_
      refine t_up1 6 (by kernel_rfl) ?_
      refine up_mk rfl ?_
      refine s_call rfl (hDo H (H.grp_ents 2 rfl) ((hSl.later H.only (fun _ h => h)).mono hIK)) (ca10 rfl) ?_
      rintro e W1 ⟨A2, n2, c2, rfl, hD2, H'⟩
      refine ⟨_, rfl, ?_⟩
      have H2 := H.grp_at 2 rfl H'; clear H'; have HB2 := HB.whole H2; clear HB H; have H := Heap.start HB2.ents; clear H2; simp only [List.set_cons_zero, List.set_cons_succ] at H HB2
      refine k_nil ?_
      refine t_on trivial ?_
      refine tqn 7 rfl rfl rfl (fun _ hS => r_mv (v := .tuple _) rfl) trivial ?_
      refine tqn 8 rfl rfl rfl (fun _ hS => r_ext (v := .agg _) rfl rfl) trivial ?_
      refine tqn 9 rfl rfl rfl (fun _ hS => r_ext (v := .bool _) rfl rfl) trivial ?_
      refine t_up1 11 (by kernel_rfl) ?_
      refine up_mk rfl ?_
      refine s_sw H 0 rfl rfl rfl rfl rfl rfl rfl sz31 ?_
      clear H; intro _ H; simp only [jA, jB, jC, jD, jE, jF, jG, jH, jI, jJ, jK, Nat.reduceAdd] at H
      refine k_nil ?_
      refine t_on trivial ?_
      refine tqn 12 rfl rfl rfl (fun _ hS => r_as (v := .bool _) rfl) trivial ?_
      refine t_done (by kernel_rfl) ?_
      refine k_met ?_
      exact ⟨_, A2, n2, c2, rfl, rfl, rfl, rfl, rfl, rfl, rfl, (hD2.on H (fun j hj => List.mem_append_right _ hj)).mono (fun j hj => List.mem_append_right _ hj), HB2.whole H⟩
   ·clear H HB
    rintro f W2 ⟨p10, A2, n2, c2, f1, f2, f7, f8, f9, f10, f11, hD2, HB2⟩
    obtain ⟨f, rfl⟩ := lv7 f1 f2 f7 f8 f9 f10 f11
    clear f1 f2 f7 f8 f9 f10 f11
    have hSh := fun {W : World} hE h => lShows p b s2 (i + 1) A2 n2 c2 W hE h hok2 (by omega)
    have H := Heap.start HB2.ents
    unfold docV at hSh
    refine c_norm ?_
    refine k_seq ?_
    refine k_sg ?_
    refine s_run rfl rfl (rmb rfl) ?_
    refine s_run rfl rfl (r_notT rfl) ?_
    refine s_run rfl rfl (rmb rfl) ?_
    refine s_run rfl (g_on 49 (by kernel_rfl) rfl) (rmp rfl) ?_
    refine s_run rfl (g_on 49 (by kernel_rfl) rfl) (r_la H 0 rfl rfl rfl ag31 sz31) ?_
    refine s_call (g_on 49 (by kernel_rfl) rfl) (hSh (H.grp_ents 2 rfl) ((hD2.later H.only (fun _ h => h)).mono (by simp))) (ca31 rfl) ?_
    rintro e W1 ⟨rfl, H'⟩
    refine ⟨_, rfl, ?_⟩
    have H := H.same H'; clear H'
    refine s_run rfl (g_on 49 (by kernel_rfl) rfl) (r_notT rfl) ?_
    refine s_run rfl rfl (r_pkF (v := .bool _) rfl rfl) ?_
    refine k_nc ?_
    refine k_f rfl ?_
    refine k_skip ?_
    refine c_norm ?_
    refine k_rg ?_
    refine s_run rfl rfl (r_la H 0 rfl rfl rfl ag31 sz31) ?_
    refine s_sw H 1 rfl rfl rfl rfl rfl rfl rfl sz31 ?_
    clear H; intro _ H; simp only [jA, jB, jC, jD, jE, jF, jG, jH, jI, jJ, jK, Nat.reduceAdd] at H
    refine k_nil ?_
    refine b_norm ?_
    refine c_norm ?_
    refine k_rg ?_
    refine s_run rfl rfl (rmi rfl) ?_
    refine s_run rfl rfl (r_add rfl rfl (wI (by omega))) ?_
    refine s_run rfl rfl (rai rfl) ?_
    refine k_nil ?_
    refine c_round ?_
    refine ⟨_, _, ?_, rfl, i + 1, s2, A2, n2, c2, by omega, by omega, rfl, hok2, (hD2.on H (fun _ h => h)).mono (fun j hj => List.mem_append_right _ (by rw [ids_cons]; exact List.mem_append_right _ hj)), by rw [hB]; rfl, rfl, rfl, rfl, rfl, (HB2.whole H).drop⟩
    omega
  ·obtain ⟨f, rfl⟩ := live5 f1 f2 f7 f8 f9
   clear f1 f2 f7 f8 f9
   have hD0 : DocOk [] W DA dn dc s := hD.mono (by simp)
   by_cases hil : i < l
   ·refine k_seq ?_
    refine k_sg ?_
    refine s_run rfl rfl (rmi rfl) ?_
    refine s_run rfl rfl (rms rfl) ?_
    refine s_run rfl rfl (r_len rfl Try.underlying23) ?_
    refine s_run rfl rfl (r_lssT rfl rfl (by omega)) ?_
    refine s_run rfl rfl (rmb rfl) ?_
    refine s_run rfl (g_on 31 (by kernel_rfl) rfl) (rmi rfl) ?_
    refine s_run rfl (g_on 31 (by kernel_rfl) rfl) (r_lssF rfl rfl (by omega)) ?_
    refine s_run rfl rfl (r_pkT (v := .bool _) rfl rfl) ?_
    refine k_nc ?_
    refine k_f rfl ?_
    refine k_exit ?_
    refine c_exit ?_
    refine c_exit ?_
    refine b_hit ?_
    refine k_met ?_
    exact ⟨i, s, DA, dn, dc, hi80, hok, hD0, rfl, rfl, rfl, HB⟩
   ·refine k_seq ?_
    refine k_sg ?_
    refine s_run rfl rfl (rmi rfl) ?_
    refine s_run rfl rfl (rms rfl) ?_
    refine s_run rfl rfl (r_len rfl Try.underlying23) ?_
    refine s_run rfl rfl (r_lssF rfl rfl (by omega)) ?_
    refine s_run rfl rfl (rmb rfl) ?_
    refine s_off rfl (g_off 31 (by kernel_rfl) rfl rfl) ?_
    refine s_off rfl (g_off 31 (by kernel_rfl) rfl rfl) ?_
    refine s_run rfl rfl (r_pkF (v := .bool _) rfl rfl) ?_
    refine k_nc ?_
    refine k_f rfl ?_
    refine k_exit ?_
    refine c_exit ?_
    refine c_exit ?_
    refine b_hit ?_
    refine k_met ?_
    exact ⟨i, s, DA, dn, dc, hi80, hok, hD0, rfl, rfl, rfl, HB⟩
end Go.Proofs.Ytpbimgopiammaaa
end

section
namespace Go.Proofs.Ytpbimgopiammaaa.lLedgerPlays
open Go.ChangeShapes Go.WideShapes Go.ChangeAt Go.RowKit
theorem own : ownKnob Try.prog.godebug = none := by kernel_rfl
theorem laidOut : laidOutB Try.prog = true := by kernel_rfl
set_option maxRecDepth 100000 in
theorem lifted (os : Os) (started : os.Started) (H : Type) (enc : TypeId × Value → H) :
  ReturnsInHanded {} Try.checked os 7 .any (Rows.ledgerPlaysSpec.pre6 enc Try.prog Try.f7 Rows.ledgerPlaysRow.domain false) (Rows.ledgerPlaysSpec.post enc Try.prog Try.f7 false true false false) := by
 refine returnsInHanded_of_change (C := Try.checked) own started (by kernel_rfl) Try.func7
  (ChangeSpec.witness6 (enc := enc) (C := Try.checked) false ⟨#[], #[.slice none 0 0, .slice none 0 0, .int .i64 0], []⟩ 8 (by kernel_rfl) (by kernel_rfl) (by kernel_rfl) (by kernel_rfl)) ?_
 intro W base args ds gs before hval0 hW hcnd _
 have hval : ∀ (j : Nat) t v, Try.f7.params[j]? = some t → args[j]? = some v → Value.okWide Try.prog W .any base t v := hval0
 have hW' := hW
 obtain ⟨p, q, hA0, hV, rfl, hfz, hnd⟩ := hW
 have hA : DataW.TrodAll enc Try.prog W 0 (fun _ => true) true Try.f7.params.toList args.toList ds p := hA0
 rw [Try.params7] at hA hval
 obtain ⟨v0, vs0, d0, ds0, p0, q0, hargs, rfl, rfl, h0, r0⟩ := trodAll_cons hA
 obtain ⟨v1, vs1, d1, ds1, p1, q1, rfl, rfl, rfl, h1, r1⟩ := trodAll_cons r0
 obtain ⟨v2, vs2, d2, ds2, p2, q2, rfl, rfl, rfl, h2, r2⟩ := trodAll_cons r1
 obtain ⟨rfl, rfl, rfl⟩ := trodAll_nil r2
 obtain rfl : args = #[v0, v1, v2] := by cases args; simp_all
 obtain ⟨rfl, rfl⟩ := trodVars_none hV
 have k0 := h0
 have lt0 : ∀ x ∈ p0, x.block < W.heap.size := by obtain ⟨m, hm⟩ := k0; exact DataW.trod_lt m _ _ _ hm
 have k1 := h1
 have lt1 : ∀ x ∈ p1, x.block < W.heap.size := by obtain ⟨m, hm⟩ := k1; exact DataW.trod_lt m _ _ _ hm
 have k2 := h2
 have lt2 : ∀ x ∈ p2, x.block < W.heap.size := by obtain ⟨m, hm⟩ := k2; exact DataW.trod_lt m _ _ _ hm
 obtain ⟨a0, len0, cap0, rfl⟩ := okWide_slice Try.underlying22 (hval 0 22 v0 rfl rfl)
 obtain ⟨z0, w0⟩ := open_row Try.underlying22 Try.underlying3 (by kernel_rfl) h0
 obtain ⟨x1, rfl, w1⟩ := opens_LOp W base v1 d1 p1 (hval 1 23 v1 rfl rfl) h1
 obtain ⟨a2, rfl, rfl, rfl, w2⟩ := open_int Try.underlying3 (hval 2 3 v2 rfl rfl) h2
 clear hA0 hval0
 refine (walk_LedgerPlays a0 len0 cap0 z0 x1 a2 W w0 w1 w2).mono fun e W' ⟨he, bel⟩ => ?_
 subst he
 exact ⟨_, rfl, _, _, _, [], _, [], hW', trodAll_mk1 (shut_bool Try.underlying4 _), (trodAll_cons_mk (Below.trod laidOut (by kernel_rfl) (of_decide_eq_true (by kernel_rfl)) k0 bel lt0) (trodAll_cons_mk (Below.trod laidOut (by kernel_rfl) (of_decide_eq_true (by kernel_rfl)) k1 bel lt1) (trodAll_cons_mk (Below.trod laidOut (by kernel_rfl) (of_decide_eq_true (by kernel_rfl)) k2 bel lt2) trodAll_mk0))), rfl, bel.frame _, fun h => by cases h⟩
theorem over : Rows.ledgerPlaysRow.holds Try.pinned (OpenSpec.ofChange Rows.ledgerPlaysSpec) :=
 OpenClaim.holds_of_wide 7 Try.f7 rfl rfl rfl rfl rfl rfl rfl ⟨rfl, rfl, rfl, rfl, rfl⟩ rfl rfl rfl rfl rfl (by kernel_rfl) Try.func7 (by kernel_rfl)
  (of_decide_eq_true (by kernel_rfl)) (by unfold Func.isWrapper; first | (rw [if_pos (by decide +kernel)]; kernel_rfl) | (rw [if_neg (by decide +kernel)]; exact ⟨rfl, rfl⟩))
  (fun os started H enc _ => lifted os started H enc)
theorem proved : Rows.LedgerPlaysSaid := over
#print axioms proved
end Go.Proofs.Ytpbimgopiammaaa.lLedgerPlays
end
