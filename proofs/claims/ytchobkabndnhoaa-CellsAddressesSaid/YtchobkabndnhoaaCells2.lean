/- What the functions of package cells compute: which cell an address is of. -/
import Derived.Test.YtchobkabndnhoaaCells1
import Derived.Test.YtchobkabndnhoaaGeom
import Derived.Test.YtchobkabndnhoaaOwn
import Derived.Test.YtchobkabndnhoaaExp2
import Derived.Test.YtchobkabndnhoaaMem2
namespace Go.Proofs.Ytchobkabndnhoaa
open Go.RowKit
set_option linter.unusedVariables false
set_option linter.unusedSimpArgs false
set_option maxHeartbeats 2000000
set_option maxRecDepth 100000
theorem rAll9_any (n k b : Int) (w : World) (h1 : 0 ≤ n) (h3 : n ≤ 1000000) (k1 : -9223372036854775808 ≤ k) (k2 : k ≤ 9223372036854775807) :
    Calls Try.prog 19 #[.int .i64 n, .int .i64 k, .int .i64 b] w (OwnInts .i64 3 (Ce.all n k b) w) := by
  have hcb := Cl.cells_bd k
  by_cases hb : 1 ≤ b ∧ b < n
  · obtain ⟨i0, hi0, hz0, hz1, hz2⟩ := info_parts info_int
    obtain ⟨b1, b2⟩ := hb
    have e := Lib.hid (Ce.all_in n k b b1 b2)
    obtain ⟨m, hm⟩ := Int.eq_ofNat_of_zero_le hcb.1
    have hm' := hm
    rw [hm, Int.toNat_natCast] at e
    go_enter Try.func19, Try.ntmps19
    go_wp2_with fail
    go_loopw [7, 8] (fun v t wr => ∃ j : Nat, j ≤ m ∧ t = .int .i64 j ∧ wr.ownsRow w.heap.size 3 1 v j ((Ce.upto k b j).map (Value.int .i64)) ∧ Below w.heap.size w wr) (fun _ t _ => m - (intOf t).toNat)
    case atStart => exact ⟨0, by omega, rfl, World.ownsRow_nil _ _ _ _, Below.refl _ _⟩
    case round =>
      obtain ⟨j, hj, rfl, hown, hbe⟩ := hrel
      by_cases hlt : j < m
      · have hk : 0 ≤ k ∧ k < 32 := by
          rcases (show k < 0 ∨ 32 ≤ k ∨ (0 ≤ k ∧ k < 32) from by omega) with g | g | g
          · rw [Cl.cells_out k (.inl g)] at hm; omega
          · rw [Cl.cells_out k (.inr g)] at hm; omega
          · exact g
        have hmul := Ce.mul_bd k j hk.1 hk.2 (by omega) (by omega)
        have hwb := Cl.words_bd k
        go_wp2_with (first
          | (go_at_call 42; refine (rCells_any _ _ (by omega) (by omega)).mono ?_; rintro e w' ⟨rfl, hb'⟩; replace hown := own_below hown hb'; replace hbe := hbe.trans (hb'.mono hbe.size); clear hb')
          | (go_at_call 27; refine (rWords_any _ _ (by omega) (by omega)).mono ?_; rintro e w' ⟨rfl, hb'⟩; replace hown := own_below hown hb'; replace hbe := hbe.trans (hb'.mono hbe.size); have hsz := hbe.size; clear hb')
          | (at_builtin; refine wpList_app1 (P := Try.prog) rfl _ _ 36 rfl w.heap.size 3 i0 (.int .i64 0) 8 Try.underlying36 hi0 hz0 hz1 hz2 rfl _ _ _ rfl hown _ _ rfl rfl (by unfold maxLen; omega) (by omega) hsz w.heap.size w hbe (Nat.le_refl _) ?_; intro v' w' hown' hbe' hlt' _))
        go_roundw
        case rel =>
          refine ⟨j + 1, by omega, by go_num, ?_, hbe'⟩
          rw [Ce.upto_succ, List.map_append]
          exact hown'
        case measure => simp [intOf] <;> omega
      · go_wp2_with (first
          | (go_at_call 42; refine (rCells_any _ _ (by omega) (by omega)).mono ?_; rintro e w' ⟨rfl, hb'⟩; replace hown := own_below hown hb'; replace hbe := hbe.trans (hb'.mono hbe.size); clear hb'))
        go_ret
        obtain rfl : j = m := by omega
        exact OwnInts.mk _ rfl j (by rw [e.out]; exact Ce.upto_len _ _ _) (by rw [e.out]; exact hown) hbe
  · have e := Lib.hid (Ce.all_out n k b hb)
    rcases (show b < 1 ∨ (1 ≤ b ∧ n ≤ b) from by omega) with g | ⟨g1, g2⟩
    all_goals
      clear hb
      go_enter Try.func19, Try.ntmps19
      go_wp2_with fail
      go_ret
      exact OwnInts.nil e.out (Below.refl _ _)
theorem rHold9_any (n k a : Int) (w : World) (h1 : 0 ≤ n) (h3 : n ≤ 1000000) (k1 : -9223372036854775808 ≤ k) (k2 : k ≤ 9223372036854775807) (a1 : -9223372036854775808 ≤ a) (a2 : a ≤ 9223372036854775807) :
    Calls Try.prog 23 #[.int .i64 n, .int .i64 k, .int .i64 a] w fun e w' => e = .returned (.tuple #[.int .i64 (Ce.holdB n k a), .int .i64 (Ce.holdI n k a)]) ∧ Below w.heap.size w w' := by
  by_cases ha : 512 ≤ a ∧ a < 512 * n
  · obtain ⟨g1, g2⟩ := ha
    have hwb := Cl.words_bd k
    have hlen := Ce.all_len n k (a / 512)
    have hbd := Ce.all_bd n k (a / 512) h3
    have hwf : Ints .i64 (Ce.all n k (a / 512)) := fun x hx => wf_i64 (by have := hbd x hx; omega)
    have hwf := Lib.hid hwf
    have hget := Lib.hid (Ce.all_get n k (a / 512))
    have hall := Lib.hid (Ce.all_in n k (a / 512))
    clear hbd
    go_enter Try.func23, Try.ntmps23
    go_wp2_with fail
    refine (rAll9_any _ _ _ _ (by omega) (by omega) (by omega) (by omega)).mono ?_
    rintro e w2 ⟨vv, rfl, ho, hb2⟩
    obtain ⟨A, c, rfl, hnc, hcm, hAn⟩ := own_shape ho
    have HR := Lib.hid (RowAt.of_own ho)
    have hAn := Lib.hid hAn
    clear ho
    generalize hxs : Ce.all n k (a / 512) = xs at *
    generalize hn : xs.length = m at *
    have hxs := Lib.hid hxs
    have hn := Lib.hid hn
    go_wp2_with fail
    go_loopw [9] (fun t wr => ∃ j : Nat, j ≤ m ∧ t = .int .i64 j ∧ Below w2.heap.size w2 wr ∧ ∀ i : Nat, i < j → 0 ≤ k → k < 32 → (i : Int) < Cl.cells k → a % 512 / Cl.words k ≠ i) (fun t _ => m - (intOf t).toNat)
    case atStart => exact ⟨0, by omega, rfl, Below.refl _ _, fun i hi => by omega⟩
    case round =>
      obtain ⟨j, hj, rfl, hbe, hno⟩ := hrel
      have hno := Lib.hid hno
      by_cases hlt : j < m
      · obtain ⟨b, off, x, rfl, hbl, hx, hwx, hc0⟩ := HR.out.int hwf.out hlt
        obtain ⟨q1, q2, q3, q4, q5, q6⟩ := hget.out j x hx
        have hwit := Ce.within a k j q3 q4 (by omega) (by omega) q5
        rw [← q6] at hwit
        have hxb := bounds_i64 hwx
        have hcell := (hbe.cell (p := ⟨b, off + j, none⟩) hbl).trans hc0
        have hwit := Lib.hid hwit
        have hmul := Ce.mul_bd k j q3 q4 (by omega) q5
        have hxle : 0 ≤ x ∧ x ≤ 1000000000 := by omega
        have g3 : 0 ≤ (j : Int) := by omega
        have g4 : (j : Int) < (m : Int) := by omega
        clear hx hwx hc0 q6 hmul
        by_cases hax : x ≤ a
        · have d1 : decide (x ≤ a) = true := by simpa using hax
          by_cases haw : a < x + Cl.words k
          · have hq := hwit.out.1 ⟨hax, haw⟩
            obtain ⟨e1, e2, _⟩ := Ce.hold_in n k a g1 g2 q3 q4 (by rw [hq]; exact q5)
            rw [hq] at e1
            have e1 := Lib.hid e1
            have e2 := Lib.hid e2
            clear hq
            have d2 : decide (a < x + Cl.words k) = true := by simpa using haw
            have s1 : IntKind.i64.wrap (x + Cl.words k) = x + Cl.words k := by rw [IntKind.wrap_i64]; omega
            go_wp2_with fail
            refine wp_region_held_drew (S := fun W => W.cell? ⟨b, off + j, none⟩ = some (.int .i64 x) ∧ Below w2.heap.size w2 W) (by kernel_rfl) ?_ (fun hHeld => ?_)
            · (try dsimp only)
              (first | assumption | exact ⟨hcell, hbe.drew⟩)
            first | (refine wpAnyH_take (i := 0) (v := ?_) rfl (by kernel_rfl) (by kernel_rfl) (by kernel_rfl) (fun _ _ _ h => h) (Or.inl ⟨by rfl, ?_⟩) (by assumption) ?_; rotate_left; (focus (intro w hSw; (try dsimp only at hSw); go_simp; first | done | with_reducible rfl))) | (refine wpAnyH_take (i := 0) rfl (by kernel_rfl) (by kernel_rfl) (by kernel_rfl) (fun _ _ _ h => h) (Or.inr ⟨by rfl, rfl⟩) (by assumption) ?_) | fail
            try simp only [Act.put, List.getElem_toArray, List.getElem_cons_zero, List.getElem_cons_succ, List.setIfInBounds_toArray, List.set_cons_zero, List.set_cons_succ]
            first | (refine wpAnyH_take (i := 1) (v := ?_) rfl (by kernel_rfl) (by kernel_rfl) (by kernel_rfl) (fun _ _ _ h => h) (Or.inl ⟨by rfl, ?_⟩) (by assumption) ?_; rotate_left; (focus (intro w hSw; (try dsimp only at hSw); go_simp; first | done | with_reducible rfl))) | (refine wpAnyH_take (i := 1) rfl (by kernel_rfl) (by kernel_rfl) (by kernel_rfl) (fun _ _ _ h => h) (Or.inr ⟨by rfl, rfl⟩) (by assumption) ?_) | fail
            try simp only [Act.put, List.getElem_toArray, List.getElem_cons_zero, List.getElem_cons_succ, List.setIfInBounds_toArray, List.set_cons_zero, List.set_cons_succ]
            first | (refine wpAnyH_take (i := 2) (v := ?_) rfl (by kernel_rfl) (by kernel_rfl) (by kernel_rfl) (fun _ _ _ h => h) (Or.inl ⟨by rfl, ?_⟩) (by assumption) ?_; rotate_left; (focus (intro w hSw; (try dsimp only at hSw); go_simp; first | done | with_reducible rfl))) | (refine wpAnyH_take (i := 2) rfl (by kernel_rfl) (by kernel_rfl) (by kernel_rfl) (fun _ _ _ h => h) (Or.inr ⟨by rfl, rfl⟩) (by assumption) ?_) | fail
            try simp only [Act.put, List.getElem_toArray, List.getElem_cons_zero, List.getElem_cons_succ, List.setIfInBounds_toArray, List.set_cons_zero, List.set_cons_succ]
            first | (refine wpAnyH_take (i := 3) (v := ?_) rfl (by kernel_rfl) (by kernel_rfl) (by kernel_rfl) (fun _ _ _ h => h) (Or.inl ⟨by rfl, ?_⟩) (by assumption) ?_; rotate_left; (focus (intro w hSw; (try dsimp only at hSw); go_simp; first | done | with_reducible rfl))) | (refine wpAnyH_take (i := 3) rfl (by kernel_rfl) (by kernel_rfl) (by kernel_rfl) (fun _ _ _ h => h) (Or.inr ⟨by rfl, rfl⟩) (by assumption) ?_) | fail
            try simp only [Act.put, List.getElem_toArray, List.getElem_cons_zero, List.getElem_cons_succ, List.setIfInBounds_toArray, List.set_cons_zero, List.set_cons_succ]
            first | (refine wpAnyH_take (i := 4) (v := ?_) rfl (by kernel_rfl) (by kernel_rfl) (by kernel_rfl) (fun _ _ _ h => h) (Or.inl ⟨by rfl, ?_⟩) (by assumption) ?_; rotate_left; (focus (intro w hSw; (try dsimp only at hSw); go_simp; first | done | with_reducible rfl))) | (refine wpAnyH_take (i := 4) rfl (by kernel_rfl) (by kernel_rfl) (by kernel_rfl) (fun _ _ _ h => h) (Or.inr ⟨by rfl, rfl⟩) (by assumption) ?_) | fail
            try simp only [Act.put, List.getElem_toArray, List.getElem_cons_zero, List.getElem_cons_succ, List.setIfInBounds_toArray, List.set_cons_zero, List.set_cons_succ]
            first | (refine wpAnyH_take (i := 5) (v := ?_) rfl (by kernel_rfl) (by kernel_rfl) (by kernel_rfl) (fun _ _ _ h => h) (Or.inl ⟨by rfl, ?_⟩) (by assumption) ?_; rotate_left; (focus (intro w hSw; (try dsimp only at hSw); go_simp; first | done | with_reducible rfl))) | (refine wpAnyH_take (i := 5) rfl (by kernel_rfl) (by kernel_rfl) (by kernel_rfl) (fun _ _ _ h => h) (Or.inr ⟨by rfl, rfl⟩) (by assumption) ?_) | fail
            try simp only [Act.put, List.getElem_toArray, List.getElem_cons_zero, List.getElem_cons_succ, List.setIfInBounds_toArray, List.set_cons_zero, List.set_cons_succ]
            first | (refine wpAnyH_take (i := 6) (v := ?_) rfl (by kernel_rfl) (by kernel_rfl) (by kernel_rfl) (fun _ _ _ h => h) (Or.inl ⟨by rfl, ?_⟩) (by assumption) ?_; rotate_left; (focus (intro w hSw; (try dsimp only at hSw); go_simp; first | done | with_reducible rfl))) | (refine wpAnyH_take (i := 6) rfl (by kernel_rfl) (by kernel_rfl) (by kernel_rfl) (fun _ _ _ h => h) (Or.inr ⟨by rfl, rfl⟩) (by assumption) ?_) | fail
            try simp only [Act.put, List.getElem_toArray, List.getElem_cons_zero, List.getElem_cons_succ, List.setIfInBounds_toArray, List.set_cons_zero, List.set_cons_succ]
            first | (refine wpAnyH_take (i := 7) (v := ?_) rfl (by kernel_rfl) (by kernel_rfl) (by kernel_rfl) (fun _ _ _ h => h) (Or.inl ⟨by rfl, ?_⟩) (by assumption) ?_; rotate_left; (focus (intro w hSw; (try dsimp only at hSw); go_simp; first | done | with_reducible rfl))) | (refine wpAnyH_take (i := 7) rfl (by kernel_rfl) (by kernel_rfl) (by kernel_rfl) (fun _ _ _ h => h) (Or.inr ⟨by rfl, rfl⟩) (by assumption) ?_) | fail
            try simp only [Act.put, List.getElem_toArray, List.getElem_cons_zero, List.getElem_cons_succ, List.setIfInBounds_toArray, List.set_cons_zero, List.set_cons_succ]
            first | (refine wpAnyH_take (i := 8) (v := ?_) rfl (by kernel_rfl) (by kernel_rfl) (by kernel_rfl) (fun _ _ _ h => h) (Or.inl ⟨by rfl, ?_⟩) (by assumption) ?_; rotate_left; (focus (intro w hSw; (try dsimp only at hSw); go_simp; first | done | with_reducible rfl))) | (refine wpAnyH_take (i := 8) rfl (by kernel_rfl) (by kernel_rfl) (by kernel_rfl) (fun _ _ _ h => h) (Or.inr ⟨by rfl, rfl⟩) (by assumption) ?_) | fail
            try simp only [Act.put, List.getElem_toArray, List.getElem_cons_zero, List.getElem_cons_succ, List.setIfInBounds_toArray, List.set_cons_zero, List.set_cons_succ]
            first | (refine wpAnyH_take (i := 9) (v := ?_) rfl (by kernel_rfl) (by kernel_rfl) (by kernel_rfl) (fun _ _ _ h => h) (Or.inl ⟨by rfl, ?_⟩) (by assumption) ?_; rotate_left; (focus (intro w hSw; (try dsimp only at hSw); go_simp; first | done | with_reducible rfl))) | (refine wpAnyH_take (i := 9) rfl (by kernel_rfl) (by kernel_rfl) (by kernel_rfl) (fun _ _ _ h => h) (Or.inr ⟨by rfl, rfl⟩) (by assumption) ?_) | fail
            try simp only [Act.put, List.getElem_toArray, List.getElem_cons_zero, List.getElem_cons_succ, List.setIfInBounds_toArray, List.set_cons_zero, List.set_cons_succ]
            first | (refine wpAnyH_take (i := 10) (v := ?_) rfl (by kernel_rfl) (by kernel_rfl) (by kernel_rfl) (fun _ _ _ h => h) (Or.inl ⟨by rfl, ?_⟩) (by assumption) ?_; rotate_left; (focus (intro w hSw; (try dsimp only at hSw); go_simp; first | done | with_reducible rfl))) | (refine wpAnyH_take (i := 10) rfl (by kernel_rfl) (by kernel_rfl) (by kernel_rfl) (fun _ _ _ h => h) (Or.inr ⟨by rfl, rfl⟩) (by assumption) ?_) | fail
            try simp only [Act.put, List.getElem_toArray, List.getElem_cons_zero, List.getElem_cons_succ, List.setIfInBounds_toArray, List.set_cons_zero, List.set_cons_succ]
            first | (refine wpAnyH_take (i := 11) (v := ?_) rfl (by kernel_rfl) (by kernel_rfl) (by kernel_rfl) (fun _ _ _ h => h) (Or.inl ⟨by rfl, ?_⟩) (by assumption) ?_; rotate_left; (focus (intro w hSw; (try dsimp only at hSw); go_simp; first | done | with_reducible rfl))) | (refine wpAnyH_take (i := 11) rfl (by kernel_rfl) (by kernel_rfl) (by kernel_rfl) (fun _ _ _ h => h) (Or.inr ⟨by rfl, rfl⟩) (by assumption) ?_) | fail
            try simp only [Act.put, List.getElem_toArray, List.getElem_cons_zero, List.getElem_cons_succ, List.setIfInBounds_toArray, List.set_cons_zero, List.set_cons_succ]
            first | (refine wpAnyH_take (i := 12) (v := ?_) rfl (by kernel_rfl) (by kernel_rfl) (by kernel_rfl) (fun _ _ _ h => h) (Or.inl ⟨by rfl, ?_⟩) (by assumption) ?_; rotate_left; (focus (intro w hSw; (try dsimp only at hSw); go_simp; first | done | with_reducible rfl))) | (refine wpAnyH_take (i := 12) rfl (by kernel_rfl) (by kernel_rfl) (by kernel_rfl) (fun _ _ _ h => h) (Or.inr ⟨by rfl, rfl⟩) (by assumption) ?_) | fail
            try simp only [Act.put, List.getElem_toArray, List.getElem_cons_zero, List.getElem_cons_succ, List.setIfInBounds_toArray, List.set_cons_zero, List.set_cons_succ]
            refine wpAnyH_ready (rs := [13]) (by kernel_rfl) (by simp) (AllReadyH.cons rfl (fun K hK => ?_) AllReadyH.nil)
            (try go_simp)
            have hS := (by assumption : _ ∧ Below w2.heap.size w2 _)
            refine (rWords_any _ _ (by omega) (by omega)).mono ?_
            rintro e w' ⟨rfl, hb'⟩
            have hS' := (⟨(hb'.cell (cell_lt hS.1)).trans hS.1, hS.2.trans (hb'.mono hS.2.size)⟩ : w'.cell? ⟨b, off + j, none⟩ = some (.int .i64 x) ∧ Below w2.heap.size w2 w')
            clear hS hb'
            refine hK.out _ _ ?_ (fun hHeld => ?_)
            · (try dsimp only)
              (first | assumption | exact ⟨hcell, hbe.drew⟩)
            clear hK K
            try simp only [Act.put, List.getElem_toArray, List.getElem_cons_zero, List.getElem_cons_succ, List.setIfInBounds_toArray, List.set_cons_zero, List.set_cons_succ]
            first | (refine wpAnyH_take (i := 14) (v := ?_) rfl (by kernel_rfl) (by kernel_rfl) (by kernel_rfl) (fun _ _ _ h => h) (Or.inl ⟨by rfl, ?_⟩) (by assumption) ?_; rotate_left; (focus (intro w hSw; (try dsimp only at hSw); go_simp; first | done | with_reducible rfl))) | (refine wpAnyH_take (i := 14) rfl (by kernel_rfl) (by kernel_rfl) (by kernel_rfl) (fun _ _ _ h => h) (Or.inr ⟨by rfl, rfl⟩) (by assumption) ?_) | fail
            try simp only [Act.put, List.getElem_toArray, List.getElem_cons_zero, List.getElem_cons_succ, List.setIfInBounds_toArray, List.set_cons_zero, List.set_cons_succ]
            first | (refine wpAnyH_take (i := 15) (v := ?_) rfl (by kernel_rfl) (by kernel_rfl) (by kernel_rfl) (fun _ _ _ h => h) (Or.inl ⟨by rfl, ?_⟩) (by assumption) ?_; rotate_left; (focus (intro w hSw; (try dsimp only at hSw); go_simp; first | done | with_reducible rfl))) | (refine wpAnyH_take (i := 15) rfl (by kernel_rfl) (by kernel_rfl) (by kernel_rfl) (fun _ _ _ h => h) (Or.inr ⟨by rfl, rfl⟩) (by assumption) ?_) | fail
            try simp only [Act.put, List.getElem_toArray, List.getElem_cons_zero, List.getElem_cons_succ, List.setIfInBounds_toArray, List.set_cons_zero, List.set_cons_succ]
            first | (refine wpAnyH_take (i := 16) (v := ?_) rfl (by kernel_rfl) (by kernel_rfl) (by kernel_rfl) (fun _ _ _ h => h) (Or.inl ⟨by rfl, ?_⟩) (by assumption) ?_; rotate_left; (focus (intro w hSw; (try dsimp only at hSw); go_simp; first | done | with_reducible rfl))) | (refine wpAnyH_take (i := 16) rfl (by kernel_rfl) (by kernel_rfl) (by kernel_rfl) (fun _ _ _ h => h) (Or.inr ⟨by rfl, rfl⟩) (by assumption) ?_) | fail
            try simp only [Act.put, List.getElem_toArray, List.getElem_cons_zero, List.getElem_cons_succ, List.setIfInBounds_toArray, List.set_cons_zero, List.set_cons_succ]
            refine wpAnyH_done (by kernel_rfl) ?_ _
            have hS' := (by assumption : _ ∧ Below w2.heap.size w2 _)
            clear s1 d1 d2
            go_wp2_with fail
            go_ret2
            exact ⟨ret_ii e2.out.symm e1.out.symm, hb2.trans (hS'.2.mono hb2.size)⟩
          · have d2 : decide (a < x + Cl.words k) = false := by simpa using haw
            have s1 : IntKind.i64.wrap (x + Cl.words k) = x + Cl.words k := by rw [IntKind.wrap_i64]; omega
            have hno2 : ∀ i : Nat, i < j + 1 → 0 ≤ k → k < 32 → (i : Int) < Cl.cells k → a % 512 / Cl.words k ≠ i := by
              intro i hi c1 c2 c3 he
              rcases Nat.lt_or_ge i j with g | g
              · exact hno.out i g c1 c2 c3 he
              · obtain rfl : i = j := by omega
                have := hwit.out.2 he
                omega
            have hno2 := Lib.hid hno2
            go_wp2_with fail
            refine wp_region_held_drew (S := fun W => W.cell? ⟨b, off + j, none⟩ = some (.int .i64 x) ∧ Below w2.heap.size w2 W) (by kernel_rfl) ?_ (fun hHeld => ?_)
            · (try dsimp only)
              (first | assumption | exact ⟨hcell, hbe.drew⟩)
            first | (refine wpAnyH_take (i := 0) (v := ?_) rfl (by kernel_rfl) (by kernel_rfl) (by kernel_rfl) (fun _ _ _ h => h) (Or.inl ⟨by rfl, ?_⟩) (by assumption) ?_; rotate_left; (focus (intro w hSw; (try dsimp only at hSw); go_simp; first | done | with_reducible rfl))) | (refine wpAnyH_take (i := 0) rfl (by kernel_rfl) (by kernel_rfl) (by kernel_rfl) (fun _ _ _ h => h) (Or.inr ⟨by rfl, rfl⟩) (by assumption) ?_) | fail
            try simp only [Act.put, List.getElem_toArray, List.getElem_cons_zero, List.getElem_cons_succ, List.setIfInBounds_toArray, List.set_cons_zero, List.set_cons_succ]
            first | (refine wpAnyH_take (i := 1) (v := ?_) rfl (by kernel_rfl) (by kernel_rfl) (by kernel_rfl) (fun _ _ _ h => h) (Or.inl ⟨by rfl, ?_⟩) (by assumption) ?_; rotate_left; (focus (intro w hSw; (try dsimp only at hSw); go_simp; first | done | with_reducible rfl))) | (refine wpAnyH_take (i := 1) rfl (by kernel_rfl) (by kernel_rfl) (by kernel_rfl) (fun _ _ _ h => h) (Or.inr ⟨by rfl, rfl⟩) (by assumption) ?_) | fail
            try simp only [Act.put, List.getElem_toArray, List.getElem_cons_zero, List.getElem_cons_succ, List.setIfInBounds_toArray, List.set_cons_zero, List.set_cons_succ]
            first | (refine wpAnyH_take (i := 2) (v := ?_) rfl (by kernel_rfl) (by kernel_rfl) (by kernel_rfl) (fun _ _ _ h => h) (Or.inl ⟨by rfl, ?_⟩) (by assumption) ?_; rotate_left; (focus (intro w hSw; (try dsimp only at hSw); go_simp; first | done | with_reducible rfl))) | (refine wpAnyH_take (i := 2) rfl (by kernel_rfl) (by kernel_rfl) (by kernel_rfl) (fun _ _ _ h => h) (Or.inr ⟨by rfl, rfl⟩) (by assumption) ?_) | fail
            try simp only [Act.put, List.getElem_toArray, List.getElem_cons_zero, List.getElem_cons_succ, List.setIfInBounds_toArray, List.set_cons_zero, List.set_cons_succ]
            first | (refine wpAnyH_take (i := 3) (v := ?_) rfl (by kernel_rfl) (by kernel_rfl) (by kernel_rfl) (fun _ _ _ h => h) (Or.inl ⟨by rfl, ?_⟩) (by assumption) ?_; rotate_left; (focus (intro w hSw; (try dsimp only at hSw); go_simp; first | done | with_reducible rfl))) | (refine wpAnyH_take (i := 3) rfl (by kernel_rfl) (by kernel_rfl) (by kernel_rfl) (fun _ _ _ h => h) (Or.inr ⟨by rfl, rfl⟩) (by assumption) ?_) | fail
            try simp only [Act.put, List.getElem_toArray, List.getElem_cons_zero, List.getElem_cons_succ, List.setIfInBounds_toArray, List.set_cons_zero, List.set_cons_succ]
            first | (refine wpAnyH_take (i := 4) (v := ?_) rfl (by kernel_rfl) (by kernel_rfl) (by kernel_rfl) (fun _ _ _ h => h) (Or.inl ⟨by rfl, ?_⟩) (by assumption) ?_; rotate_left; (focus (intro w hSw; (try dsimp only at hSw); go_simp; first | done | with_reducible rfl))) | (refine wpAnyH_take (i := 4) rfl (by kernel_rfl) (by kernel_rfl) (by kernel_rfl) (fun _ _ _ h => h) (Or.inr ⟨by rfl, rfl⟩) (by assumption) ?_) | fail
            try simp only [Act.put, List.getElem_toArray, List.getElem_cons_zero, List.getElem_cons_succ, List.setIfInBounds_toArray, List.set_cons_zero, List.set_cons_succ]
            first | (refine wpAnyH_take (i := 5) (v := ?_) rfl (by kernel_rfl) (by kernel_rfl) (by kernel_rfl) (fun _ _ _ h => h) (Or.inl ⟨by rfl, ?_⟩) (by assumption) ?_; rotate_left; (focus (intro w hSw; (try dsimp only at hSw); go_simp; first | done | with_reducible rfl))) | (refine wpAnyH_take (i := 5) rfl (by kernel_rfl) (by kernel_rfl) (by kernel_rfl) (fun _ _ _ h => h) (Or.inr ⟨by rfl, rfl⟩) (by assumption) ?_) | fail
            try simp only [Act.put, List.getElem_toArray, List.getElem_cons_zero, List.getElem_cons_succ, List.setIfInBounds_toArray, List.set_cons_zero, List.set_cons_succ]
            first | (refine wpAnyH_take (i := 6) (v := ?_) rfl (by kernel_rfl) (by kernel_rfl) (by kernel_rfl) (fun _ _ _ h => h) (Or.inl ⟨by rfl, ?_⟩) (by assumption) ?_; rotate_left; (focus (intro w hSw; (try dsimp only at hSw); go_simp; first | done | with_reducible rfl))) | (refine wpAnyH_take (i := 6) rfl (by kernel_rfl) (by kernel_rfl) (by kernel_rfl) (fun _ _ _ h => h) (Or.inr ⟨by rfl, rfl⟩) (by assumption) ?_) | fail
            try simp only [Act.put, List.getElem_toArray, List.getElem_cons_zero, List.getElem_cons_succ, List.setIfInBounds_toArray, List.set_cons_zero, List.set_cons_succ]
            first | (refine wpAnyH_take (i := 7) (v := ?_) rfl (by kernel_rfl) (by kernel_rfl) (by kernel_rfl) (fun _ _ _ h => h) (Or.inl ⟨by rfl, ?_⟩) (by assumption) ?_; rotate_left; (focus (intro w hSw; (try dsimp only at hSw); go_simp; first | done | with_reducible rfl))) | (refine wpAnyH_take (i := 7) rfl (by kernel_rfl) (by kernel_rfl) (by kernel_rfl) (fun _ _ _ h => h) (Or.inr ⟨by rfl, rfl⟩) (by assumption) ?_) | fail
            try simp only [Act.put, List.getElem_toArray, List.getElem_cons_zero, List.getElem_cons_succ, List.setIfInBounds_toArray, List.set_cons_zero, List.set_cons_succ]
            first | (refine wpAnyH_take (i := 8) (v := ?_) rfl (by kernel_rfl) (by kernel_rfl) (by kernel_rfl) (fun _ _ _ h => h) (Or.inl ⟨by rfl, ?_⟩) (by assumption) ?_; rotate_left; (focus (intro w hSw; (try dsimp only at hSw); go_simp; first | done | with_reducible rfl))) | (refine wpAnyH_take (i := 8) rfl (by kernel_rfl) (by kernel_rfl) (by kernel_rfl) (fun _ _ _ h => h) (Or.inr ⟨by rfl, rfl⟩) (by assumption) ?_) | fail
            try simp only [Act.put, List.getElem_toArray, List.getElem_cons_zero, List.getElem_cons_succ, List.setIfInBounds_toArray, List.set_cons_zero, List.set_cons_succ]
            first | (refine wpAnyH_take (i := 9) (v := ?_) rfl (by kernel_rfl) (by kernel_rfl) (by kernel_rfl) (fun _ _ _ h => h) (Or.inl ⟨by rfl, ?_⟩) (by assumption) ?_; rotate_left; (focus (intro w hSw; (try dsimp only at hSw); go_simp; first | done | with_reducible rfl))) | (refine wpAnyH_take (i := 9) rfl (by kernel_rfl) (by kernel_rfl) (by kernel_rfl) (fun _ _ _ h => h) (Or.inr ⟨by rfl, rfl⟩) (by assumption) ?_) | fail
            try simp only [Act.put, List.getElem_toArray, List.getElem_cons_zero, List.getElem_cons_succ, List.setIfInBounds_toArray, List.set_cons_zero, List.set_cons_succ]
            first | (refine wpAnyH_take (i := 10) (v := ?_) rfl (by kernel_rfl) (by kernel_rfl) (by kernel_rfl) (fun _ _ _ h => h) (Or.inl ⟨by rfl, ?_⟩) (by assumption) ?_; rotate_left; (focus (intro w hSw; (try dsimp only at hSw); go_simp; first | done | with_reducible rfl))) | (refine wpAnyH_take (i := 10) rfl (by kernel_rfl) (by kernel_rfl) (by kernel_rfl) (fun _ _ _ h => h) (Or.inr ⟨by rfl, rfl⟩) (by assumption) ?_) | fail
            try simp only [Act.put, List.getElem_toArray, List.getElem_cons_zero, List.getElem_cons_succ, List.setIfInBounds_toArray, List.set_cons_zero, List.set_cons_succ]
            first | (refine wpAnyH_take (i := 11) (v := ?_) rfl (by kernel_rfl) (by kernel_rfl) (by kernel_rfl) (fun _ _ _ h => h) (Or.inl ⟨by rfl, ?_⟩) (by assumption) ?_; rotate_left; (focus (intro w hSw; (try dsimp only at hSw); go_simp; first | done | with_reducible rfl))) | (refine wpAnyH_take (i := 11) rfl (by kernel_rfl) (by kernel_rfl) (by kernel_rfl) (fun _ _ _ h => h) (Or.inr ⟨by rfl, rfl⟩) (by assumption) ?_) | fail
            try simp only [Act.put, List.getElem_toArray, List.getElem_cons_zero, List.getElem_cons_succ, List.setIfInBounds_toArray, List.set_cons_zero, List.set_cons_succ]
            first | (refine wpAnyH_take (i := 12) (v := ?_) rfl (by kernel_rfl) (by kernel_rfl) (by kernel_rfl) (fun _ _ _ h => h) (Or.inl ⟨by rfl, ?_⟩) (by assumption) ?_; rotate_left; (focus (intro w hSw; (try dsimp only at hSw); go_simp; first | done | with_reducible rfl))) | (refine wpAnyH_take (i := 12) rfl (by kernel_rfl) (by kernel_rfl) (by kernel_rfl) (fun _ _ _ h => h) (Or.inr ⟨by rfl, rfl⟩) (by assumption) ?_) | fail
            try simp only [Act.put, List.getElem_toArray, List.getElem_cons_zero, List.getElem_cons_succ, List.setIfInBounds_toArray, List.set_cons_zero, List.set_cons_succ]
            refine wpAnyH_ready (rs := [13]) (by kernel_rfl) (by simp) (AllReadyH.cons rfl (fun K hK => ?_) AllReadyH.nil)
            (try go_simp)
            have hS := (by assumption : _ ∧ Below w2.heap.size w2 _)
            refine (rWords_any _ _ (by omega) (by omega)).mono ?_
            rintro e w' ⟨rfl, hb'⟩
            have hS' := (⟨(hb'.cell (cell_lt hS.1)).trans hS.1, hS.2.trans (hb'.mono hS.2.size)⟩ : w'.cell? ⟨b, off + j, none⟩ = some (.int .i64 x) ∧ Below w2.heap.size w2 w')
            clear hS hb'
            refine hK.out _ _ ?_ (fun hHeld => ?_)
            · (try dsimp only)
              (first | assumption | exact ⟨hcell, hbe.drew⟩)
            clear hK K
            try simp only [Act.put, List.getElem_toArray, List.getElem_cons_zero, List.getElem_cons_succ, List.setIfInBounds_toArray, List.set_cons_zero, List.set_cons_succ]
            first | (refine wpAnyH_take (i := 14) (v := ?_) rfl (by kernel_rfl) (by kernel_rfl) (by kernel_rfl) (fun _ _ _ h => h) (Or.inl ⟨by rfl, ?_⟩) (by assumption) ?_; rotate_left; (focus (intro w hSw; (try dsimp only at hSw); go_simp; first | done | with_reducible rfl))) | (refine wpAnyH_take (i := 14) rfl (by kernel_rfl) (by kernel_rfl) (by kernel_rfl) (fun _ _ _ h => h) (Or.inr ⟨by rfl, rfl⟩) (by assumption) ?_) | fail
            try simp only [Act.put, List.getElem_toArray, List.getElem_cons_zero, List.getElem_cons_succ, List.setIfInBounds_toArray, List.set_cons_zero, List.set_cons_succ]
            first | (refine wpAnyH_take (i := 15) (v := ?_) rfl (by kernel_rfl) (by kernel_rfl) (by kernel_rfl) (fun _ _ _ h => h) (Or.inl ⟨by rfl, ?_⟩) (by assumption) ?_; rotate_left; (focus (intro w hSw; (try dsimp only at hSw); go_simp; first | done | with_reducible rfl))) | (refine wpAnyH_take (i := 15) rfl (by kernel_rfl) (by kernel_rfl) (by kernel_rfl) (fun _ _ _ h => h) (Or.inr ⟨by rfl, rfl⟩) (by assumption) ?_) | fail
            try simp only [Act.put, List.getElem_toArray, List.getElem_cons_zero, List.getElem_cons_succ, List.setIfInBounds_toArray, List.set_cons_zero, List.set_cons_succ]
            first | (refine wpAnyH_take (i := 16) (v := ?_) rfl (by kernel_rfl) (by kernel_rfl) (by kernel_rfl) (fun _ _ _ h => h) (Or.inl ⟨by rfl, ?_⟩) (by assumption) ?_; rotate_left; (focus (intro w hSw; (try dsimp only at hSw); go_simp; first | done | with_reducible rfl))) | (refine wpAnyH_take (i := 16) rfl (by kernel_rfl) (by kernel_rfl) (by kernel_rfl) (fun _ _ _ h => h) (Or.inr ⟨by rfl, rfl⟩) (by assumption) ?_) | fail
            try simp only [Act.put, List.getElem_toArray, List.getElem_cons_zero, List.getElem_cons_succ, List.setIfInBounds_toArray, List.set_cons_zero, List.set_cons_succ]
            refine wpAnyH_done (by kernel_rfl) ?_ _
            have hS' := (by assumption : _ ∧ Below w2.heap.size w2 _)
            clear s1 d1 d2
            go_wp2_with fail
            go_roundw
            case rel => exact ⟨j + 1, by omega, by go_num, hS'.2, hno2.out⟩
            case measure => simp [intOf] <;> omega
        · have d1 : decide (x ≤ a) = false := by simpa using hax
          have hno2 : ∀ i : Nat, i < j + 1 → 0 ≤ k → k < 32 → (i : Int) < Cl.cells k → a % 512 / Cl.words k ≠ i := by
            intro i hi c1 c2 c3 he
            rcases Nat.lt_or_ge i j with g | g
            · exact hno.out i g c1 c2 c3 he
            · obtain rfl : i = j := by omega
              have := hwit.out.2 he
              omega
          have hno2 := Lib.hid hno2
          go_wp2_with fail
          go_quiet (fail)
          clear d1
          go_wp2_with fail
          go_roundw
          case rel => exact ⟨j + 1, by omega, by go_num, below_drewN hbe _, hno2.out⟩
          case measure => simp [intOf] <;> omega
      · obtain rfl : j = m := by omega
        have hout : Ce.holdI n k a = -1 ∧ Ce.holdB n k a = 0 := by
          apply Ce.hold_out
          rintro ⟨_, _, c1, c2, c3⟩
          have hw := Cl.words_pos k c1 c2
          have hp : 0 ≤ a % 512 / Cl.words k := Int.ediv_nonneg (by omega) (by omega)
          obtain ⟨q, hq⟩ := Int.eq_ofNat_of_zero_le hp
          have hm2 : j = (Cl.cells k).toNat := by
            rw [← hn.out, hall.out (by omega) (by omega), Ce.upto_len]
          exact hno.out q (by omega) c1 c2 (by omega) hq
        have hout := Lib.hid hout
        go_wp2_with fail
        go_ret2
        exact ⟨ret_ii hout.out.2.symm hout.out.1.symm, hb2.trans (hbe.mono hb2.size)⟩
  · obtain ⟨e1, e2⟩ := Ce.hold_out n k a (by omega)
    have e1 := Lib.hid e1
    have e2 := Lib.hid e2
    rcases (show a < 512 ∨ (512 ≤ a ∧ 512 * n ≤ a) from by omega) with g | ⟨g1, g2⟩
    all_goals
      clear ha
      go_enter Try.func23, Try.ntmps23
      go_wp2_with fail
      go_ret2
      exact ⟨ret_ii e2.out.symm e1.out.symm, Below.refl _ _⟩
end Go.Proofs.Ytchobkabndnhoaa
