/- What Number and Next compute, and the reference's Number. -/
import Derived.Test.YtchobkabndnhoaaExp2
import Derived.Test.YtchobkabndnhoaaOwn
import Derived.Test.YtchobkabndnhoaaPExp3
namespace Go.Proofs.Ytchobkabndnhoaa
open Go.RowKit
set_option linter.unusedVariables false
set_option maxHeartbeats 1000000
set_option maxRecDepth 100000
theorem xNumber_any (c : Int) (A : Option Addr) (n cap : Nat) (xs : List Int) (B : Nat) (w : World) (hr : RowAt w B A n (xs.map (Value.int .u8))) (hi : Ints .u8 xs) (hl : n ≤ 1000000) (c1 : -9223372036854775808 ≤ c) (c2 : c ≤ 9223372036854775807) :
    Calls Try.prog 36 #[.int .i64 c, .slice A n cap] w fun e w' => e = .returned (.tuple #[.int .i64 (Xp.numV c xs), .int .i64 (Xp.numE c xs)]) ∧ w = w' := by
  by_cases hc : Xp.cOk c
  · have hlen : xs.length = n := by simpa using hr.1
    have HL := Lib.hid hlen
    have HR := Lib.hid hr
    have HI := Lib.hid hi
    have HC := Lib.hid hc
    unfold Xp.cOk at hc
    clear hlen hr hi
    go_enter Try.func36, Try.ntmps36
    go_wp2_with fail
    go_loop [6, 7] (fun v t => ∃ (j : Nat) (T : Int), j ≤ n ∧ t = .int .i64 T ∧ T + 1 = j ∧ v = .int .i64 (Xp.nval c (xs.drop j)) ∧ Xp.numOk c (xs.drop j)) (fun _ t => (intOf t + 1).toNat)
    case atStart => exact ⟨n, (n : Int) - 1, by omega, rfl, by omega, by rw [List.drop_of_length_le (by rw [HL.out]; exact Nat.le_refl _)]; rfl, by rw [List.drop_of_length_le (by rw [HL.out]; exact Nat.le_refl _)]; exact Xp.numOk_nil c HC.out⟩
    case round =>
      obtain ⟨j, T, hj, rfl, hT, rfl, hok⟩ := hrel
      have hb := Xp.numOk_bd c _ hok
      replace hok := Lib.hid hok
      rcases j with _ | i
      · obtain rfl : T = -1 := by omega
        have ev := Xp.numV_in c xs hok.out
        replace ev := Lib.hid ev
        clear hT hb
        go_wp2_with fail
        go_ret2
        exact ⟨ret_ii (by rw [ev.out.1]) ev.out.2.symm, rfl⟩
      · obtain rfl : T = (i : Int) := by omega
        obtain ⟨b, off, d, rfl, hbl, hd, hwd, hcell⟩ := HR.out.int HI.out (show i < n by omega)
        have db := bounds_u8 hwd
        have hdr := Xp.drop_cons xs i d hd
        have hcons := Xp.numOk_cons c d _ hok.out db.1
        rw [← hdr] at hcons
        have hnv : Xp.nval c (xs.drop i) = d + c * Xp.nval c (xs.drop (i + 1)) := by rw [hdr]; rfl
        clear hT hd hwd hdr
        replace hcons := Lib.hid hcons
        replace hnv := Lib.hid hnv
        generalize hN : Xp.nval c (xs.drop (i + 1)) = N at *
        replace hN := Lib.hid hN
        by_cases g1 : d < c
        · by_cases g2 : N ≤ (1099511627776 - d) / c
          · have hok2 := hcons.out.2 ⟨g1, g2⟩
            have hb2 := Xp.numOk_bd c _ hok2
            rw [hnv.out, Int.add_comm d, Int.mul_comm c] at hb2
            replace hok2 := Lib.hid hok2
            go_wp2_with fail
            go_round
            case rel => exact ⟨i, (i : Int) - 1, by omega, rfl, by omega, by rw [hnv.out, Int.add_comm d, Int.mul_comm c], hok2.out⟩
            case measure => simp [intOf] <;> omega
          · have ev := Lib.hid (Xp.numV_out c xs (Xp.numOk_tail c xs i (fun h => g2 (hcons.out.1 h).2)))
            go_wp2_with fail
            go_ret2
            exact ⟨ret_ii ev.out.1.symm ev.out.2.symm, rfl⟩
        · have ev := Lib.hid (Xp.numV_out c xs (Xp.numOk_tail c xs i (fun h => g1 (hcons.out.1 h).1)))
          go_wp2_with fail
          go_ret2
          exact ⟨ret_ii ev.out.1.symm ev.out.2.symm, rfl⟩
  · have ev := Lib.hid (Xp.numV_out c xs (fun h => hc h.1))
    unfold Xp.cOk at hc
    rcases (show c < 1 ∨ (1 ≤ c ∧ 256 < c) from by omega) with g | ⟨g1, g2⟩
    all_goals
      clear hc
      go_enter Try.func36, Try.ntmps36
      go_wp2_with fail
      go_ret2
      exact ⟨ret_ii ev.out.1.symm ev.out.2.symm, rfl⟩
theorem rxNumber_any (c : Int) (A : Option Addr) (n cap : Nat) (xs : List Int) (B : Nat) (w : World) (hr : RowAt w B A n (xs.map (Value.int .u8))) (hi : Ints .u8 xs) (hl : n ≤ 1000000) (c1 : -9223372036854775808 ≤ c) (c2 : c ≤ 9223372036854775807) :
    Calls Try.prog 37 #[.int .i64 c, .slice A n cap] w fun e w' => e = .returned (.int .i64 (Xp.number c xs)) ∧ w = w' := by
  have hlen : xs.length = n := by simpa using hr.1
  have HL := Lib.hid hlen
  have HR := Lib.hid hr
  have HI := Lib.hid hi
  have H0 : ∀ d ∈ xs, 0 ≤ d := fun d hd => (bounds_u8 (hi d hd)).1
  replace H0 := Lib.hid H0
  clear hlen hr hi
  by_cases hc : Xp.cOk c
  · have HC := Lib.hid hc
    unfold Xp.cOk at hc
    go_enter Try.func37, Try.ntmps37
    go_wp2_with fail
    go_loop [5, 6, 7] (fun v p t => ∃ j : Nat, j ≤ n ∧ t = .int .i64 j ∧ v = .int .i64 (Xp.nval c (xs.take j)) ∧ p = .int .i64 (Xp.pl c j) ∧ Xp.numOk c (xs.take j)) (fun _ _ t => n - (intOf t).toNat)
    case atStart => exact ⟨0, by omega, rfl, rfl, rfl, Xp.numOk_nil c HC.out⟩
    case round =>
      obtain ⟨j, hj, rfl, rfl, rfl, hok⟩ := hrel
      have hb := Xp.numOk_bd c _ hok
      replace hok := Lib.hid hok
      by_cases hlt : j < n
      · obtain ⟨b, off, d, rfl, hbl, hd, hwd, hcell⟩ := HR.out.int HI.out hlt
        have db := bounds_u8 hwd
        have htk := Lib.hid (take_succ_of hd)
        have hmp := Xp.mul_pl c d HC.out j db.1 db.2
        by_cases g1 : d < c
        · obtain ⟨f1, f2⟩ := Xp.step_low c d (xs.take j) j (by rw [List.length_take, HL.out]; omega) hok.out db.1 g1
          have pin := Lib.hid (Xp.pl_in c j)
          have pout := Lib.hid (Xp.pl_out c j)
          clear hd hwd
          generalize hP : Xp.pl c j = P at *
          generalize hV : Xp.nval c (xs.take j) = V at *
          replace hP := Lib.hid hP
          replace hV := Lib.hid hV
          obtain ⟨m1, m2, m3, m4, m5⟩ := hmp
          by_cases g2 : 1 ≤ d ∧ 1099511627776 < P
          · obtain ⟨g2, g3⟩ := g2
            have ev := Lib.hid (Xp.number_out c xs (Xp.not_take c xs (j + 1) H0.out (by rw [htk.out]; exact f1 ⟨g2, g3⟩)))
            clear f1 f2 m3
            go_wp2_with fail
            go_ret
            exact ⟨ret_int ev.out.symm, rfl⟩
          · obtain ⟨f3, f4⟩ := f2 (by omega)
            replace f3 := Lib.hid f3
            replace f4 := Lib.hid f4
            clear f1 f2
            by_cases g3 : V + d * P ≤ 1099511627776
            · have hok2 := f3.out.2 g3
              rw [← htk.out] at hok2
              replace hok2 := Lib.hid hok2
              rcases (show (1 ≤ d ∧ P ≤ 1099511627776) ∨ (d < 1 ∧ P ≤ 1099511627776) ∨ (d < 1 ∧ 1099511627776 < P) from by omega) with ⟨k1, k2⟩ | ⟨k1, k2⟩ | ⟨k1, k2⟩
              · have m3 := m3 k2
                clear g2
                go_wp2_with fail
                go_round
                case rel => exact ⟨j + 1, by omega, by go_num, by rw [htk.out, f4.out], by rw [pin.out k2], hok2.out⟩
                case measure => simp [intOf] <;> omega
              · have m3 := m3 k2
                clear g2
                go_wp2_with fail
                go_round
                case rel => exact ⟨j + 1, by omega, by go_num, by rw [htk.out, f4.out], by rw [pin.out k2], hok2.out⟩
                case measure => simp [intOf] <;> omega
              · clear g2 m3
                go_wp2_with fail
                go_round
                case rel => exact ⟨j + 1, by omega, by go_num, by rw [htk.out, f4.out], by rw [pout.out (by omega)], hok2.out⟩
                case measure => simp [intOf] <;> omega
            · have ev := Lib.hid (Xp.number_out c xs (Xp.not_take c xs (j + 1) H0.out (by rw [htk.out]; exact fun h => g3 (f3.out.1 h))))
              rcases (show (1 ≤ d ∧ P ≤ 1099511627776) ∨ d < 1 from by omega) with ⟨k1, k2⟩ | k1
              all_goals
                clear g2 m3
                go_wp2_with fail
                go_ret
                exact ⟨ret_int ev.out.symm, rfl⟩
        · have ev := Lib.hid (Xp.number_out c xs (fun h => g1 (h.2.1 d (List.mem_of_getElem? hd)).2))
          clear hd hwd hmp
          go_wp2_with fail
          go_ret
          exact ⟨ret_int ev.out.symm, rfl⟩
      · obtain rfl : j = n := by omega
        have e := hok.out
        rw [List.take_of_length_le (by rw [HL.out]; exact Nat.le_refl _)] at e
        have e := Lib.hid (Xp.number_in c xs e)
        go_wp2_with fail
        go_ret
        exact ⟨ret_int (by rw [e.out, List.take_of_length_le (by rw [HL.out]; exact Nat.le_refl _)]), rfl⟩
  · have ev := Lib.hid (Xp.number_out c xs (fun h => hc h.1))
    unfold Xp.cOk at hc
    rcases (show c < 1 ∨ (1 ≤ c ∧ 256 < c) from by omega) with g | ⟨g1, g2⟩
    all_goals
      clear hc
      go_enter Try.func37, Try.ntmps37
      go_wp2_with fail
      go_loop [5, 6, 7] (fun v p t => t = .int .i64 0) (fun _ _ t => n - (intOf t).toNat)
      case atStart => rfl
      case round =>
        subst hrel
        by_cases hlt : 0 < n
        · go_wp2_with fail
          go_ret
          exact ⟨ret_int ev.out.symm, rfl⟩
        · obtain rfl : n = 0 := by omega
          go_wp2_with fail
          go_ret
          exact ⟨ret_int ev.out.symm, rfl⟩
end Go.Proofs.Ytchobkabndnhoaa
