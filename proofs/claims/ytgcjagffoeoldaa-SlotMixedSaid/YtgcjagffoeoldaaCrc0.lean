/- The table of package crc: its contract. -/
import Derived.Test.YtgcjagffoeoldaaCom
import Derived.Test.YtgcjagffoeoldaaPCrc
namespace Go.Proofs.Ytgcjagffoeoldaa
open Go.RowKit
set_option linter.unusedVariables false
set_option maxHeartbeats 400000
theorem tab_i0 (w : World) : (Instr.index 129 (.agg #[.int .u32 0, .int .u32 498536548, .int .u32 997073096, .int .u32 651767980, .int .u32 1994146192, .int .u32 1802195444, .int .u32 1303535960, .int .u32 1342533948, .int .u32 3988292384, .int .u32 4027552580, .int .u32 3604390888, .int .u32 3412177804, .int .u32 2607071920, .int .u32 2262029012, .int .u32 2685067896, .int .u32 3183342108]) (.int .u8 0)).run Try.prog w = .ok (.int .u32 0) w := by kernel_rfl
theorem tab_i1 (w : World) : (Instr.index 129 (.agg #[.int .u32 0, .int .u32 498536548, .int .u32 997073096, .int .u32 651767980, .int .u32 1994146192, .int .u32 1802195444, .int .u32 1303535960, .int .u32 1342533948, .int .u32 3988292384, .int .u32 4027552580, .int .u32 3604390888, .int .u32 3412177804, .int .u32 2607071920, .int .u32 2262029012, .int .u32 2685067896, .int .u32 3183342108]) (.int .u8 1)).run Try.prog w = .ok (.int .u32 498536548) w := by kernel_rfl
theorem tab_i2 (w : World) : (Instr.index 129 (.agg #[.int .u32 0, .int .u32 498536548, .int .u32 997073096, .int .u32 651767980, .int .u32 1994146192, .int .u32 1802195444, .int .u32 1303535960, .int .u32 1342533948, .int .u32 3988292384, .int .u32 4027552580, .int .u32 3604390888, .int .u32 3412177804, .int .u32 2607071920, .int .u32 2262029012, .int .u32 2685067896, .int .u32 3183342108]) (.int .u8 2)).run Try.prog w = .ok (.int .u32 997073096) w := by kernel_rfl
theorem tab_i3 (w : World) : (Instr.index 129 (.agg #[.int .u32 0, .int .u32 498536548, .int .u32 997073096, .int .u32 651767980, .int .u32 1994146192, .int .u32 1802195444, .int .u32 1303535960, .int .u32 1342533948, .int .u32 3988292384, .int .u32 4027552580, .int .u32 3604390888, .int .u32 3412177804, .int .u32 2607071920, .int .u32 2262029012, .int .u32 2685067896, .int .u32 3183342108]) (.int .u8 3)).run Try.prog w = .ok (.int .u32 651767980) w := by kernel_rfl
theorem tab_i4 (w : World) : (Instr.index 129 (.agg #[.int .u32 0, .int .u32 498536548, .int .u32 997073096, .int .u32 651767980, .int .u32 1994146192, .int .u32 1802195444, .int .u32 1303535960, .int .u32 1342533948, .int .u32 3988292384, .int .u32 4027552580, .int .u32 3604390888, .int .u32 3412177804, .int .u32 2607071920, .int .u32 2262029012, .int .u32 2685067896, .int .u32 3183342108]) (.int .u8 4)).run Try.prog w = .ok (.int .u32 1994146192) w := by kernel_rfl
theorem tab_i5 (w : World) : (Instr.index 129 (.agg #[.int .u32 0, .int .u32 498536548, .int .u32 997073096, .int .u32 651767980, .int .u32 1994146192, .int .u32 1802195444, .int .u32 1303535960, .int .u32 1342533948, .int .u32 3988292384, .int .u32 4027552580, .int .u32 3604390888, .int .u32 3412177804, .int .u32 2607071920, .int .u32 2262029012, .int .u32 2685067896, .int .u32 3183342108]) (.int .u8 5)).run Try.prog w = .ok (.int .u32 1802195444) w := by kernel_rfl
theorem tab_i6 (w : World) : (Instr.index 129 (.agg #[.int .u32 0, .int .u32 498536548, .int .u32 997073096, .int .u32 651767980, .int .u32 1994146192, .int .u32 1802195444, .int .u32 1303535960, .int .u32 1342533948, .int .u32 3988292384, .int .u32 4027552580, .int .u32 3604390888, .int .u32 3412177804, .int .u32 2607071920, .int .u32 2262029012, .int .u32 2685067896, .int .u32 3183342108]) (.int .u8 6)).run Try.prog w = .ok (.int .u32 1303535960) w := by kernel_rfl
theorem tab_i7 (w : World) : (Instr.index 129 (.agg #[.int .u32 0, .int .u32 498536548, .int .u32 997073096, .int .u32 651767980, .int .u32 1994146192, .int .u32 1802195444, .int .u32 1303535960, .int .u32 1342533948, .int .u32 3988292384, .int .u32 4027552580, .int .u32 3604390888, .int .u32 3412177804, .int .u32 2607071920, .int .u32 2262029012, .int .u32 2685067896, .int .u32 3183342108]) (.int .u8 7)).run Try.prog w = .ok (.int .u32 1342533948) w := by kernel_rfl
theorem tab_i8 (w : World) : (Instr.index 129 (.agg #[.int .u32 0, .int .u32 498536548, .int .u32 997073096, .int .u32 651767980, .int .u32 1994146192, .int .u32 1802195444, .int .u32 1303535960, .int .u32 1342533948, .int .u32 3988292384, .int .u32 4027552580, .int .u32 3604390888, .int .u32 3412177804, .int .u32 2607071920, .int .u32 2262029012, .int .u32 2685067896, .int .u32 3183342108]) (.int .u8 8)).run Try.prog w = .ok (.int .u32 3988292384) w := by kernel_rfl
theorem tab_i9 (w : World) : (Instr.index 129 (.agg #[.int .u32 0, .int .u32 498536548, .int .u32 997073096, .int .u32 651767980, .int .u32 1994146192, .int .u32 1802195444, .int .u32 1303535960, .int .u32 1342533948, .int .u32 3988292384, .int .u32 4027552580, .int .u32 3604390888, .int .u32 3412177804, .int .u32 2607071920, .int .u32 2262029012, .int .u32 2685067896, .int .u32 3183342108]) (.int .u8 9)).run Try.prog w = .ok (.int .u32 4027552580) w := by kernel_rfl
theorem tab_i10 (w : World) : (Instr.index 129 (.agg #[.int .u32 0, .int .u32 498536548, .int .u32 997073096, .int .u32 651767980, .int .u32 1994146192, .int .u32 1802195444, .int .u32 1303535960, .int .u32 1342533948, .int .u32 3988292384, .int .u32 4027552580, .int .u32 3604390888, .int .u32 3412177804, .int .u32 2607071920, .int .u32 2262029012, .int .u32 2685067896, .int .u32 3183342108]) (.int .u8 10)).run Try.prog w = .ok (.int .u32 3604390888) w := by kernel_rfl
theorem tab_i11 (w : World) : (Instr.index 129 (.agg #[.int .u32 0, .int .u32 498536548, .int .u32 997073096, .int .u32 651767980, .int .u32 1994146192, .int .u32 1802195444, .int .u32 1303535960, .int .u32 1342533948, .int .u32 3988292384, .int .u32 4027552580, .int .u32 3604390888, .int .u32 3412177804, .int .u32 2607071920, .int .u32 2262029012, .int .u32 2685067896, .int .u32 3183342108]) (.int .u8 11)).run Try.prog w = .ok (.int .u32 3412177804) w := by kernel_rfl
theorem tab_i12 (w : World) : (Instr.index 129 (.agg #[.int .u32 0, .int .u32 498536548, .int .u32 997073096, .int .u32 651767980, .int .u32 1994146192, .int .u32 1802195444, .int .u32 1303535960, .int .u32 1342533948, .int .u32 3988292384, .int .u32 4027552580, .int .u32 3604390888, .int .u32 3412177804, .int .u32 2607071920, .int .u32 2262029012, .int .u32 2685067896, .int .u32 3183342108]) (.int .u8 12)).run Try.prog w = .ok (.int .u32 2607071920) w := by kernel_rfl
theorem tab_i13 (w : World) : (Instr.index 129 (.agg #[.int .u32 0, .int .u32 498536548, .int .u32 997073096, .int .u32 651767980, .int .u32 1994146192, .int .u32 1802195444, .int .u32 1303535960, .int .u32 1342533948, .int .u32 3988292384, .int .u32 4027552580, .int .u32 3604390888, .int .u32 3412177804, .int .u32 2607071920, .int .u32 2262029012, .int .u32 2685067896, .int .u32 3183342108]) (.int .u8 13)).run Try.prog w = .ok (.int .u32 2262029012) w := by kernel_rfl
theorem tab_i14 (w : World) : (Instr.index 129 (.agg #[.int .u32 0, .int .u32 498536548, .int .u32 997073096, .int .u32 651767980, .int .u32 1994146192, .int .u32 1802195444, .int .u32 1303535960, .int .u32 1342533948, .int .u32 3988292384, .int .u32 4027552580, .int .u32 3604390888, .int .u32 3412177804, .int .u32 2607071920, .int .u32 2262029012, .int .u32 2685067896, .int .u32 3183342108]) (.int .u8 14)).run Try.prog w = .ok (.int .u32 2685067896) w := by kernel_rfl
theorem tab_i15 (w : World) : (Instr.index 129 (.agg #[.int .u32 0, .int .u32 498536548, .int .u32 997073096, .int .u32 651767980, .int .u32 1994146192, .int .u32 1802195444, .int .u32 1303535960, .int .u32 1342533948, .int .u32 3988292384, .int .u32 4027552580, .int .u32 3604390888, .int .u32 3412177804, .int .u32 2607071920, .int .u32 2262029012, .int .u32 2685067896, .int .u32 3183342108]) (.int .u8 15)).run Try.prog w = .ok (.int .u32 3183342108) w := by kernel_rfl
theorem table_at0 (i : Int) (w : World) (h1 : 0 ≤ i) (h2 : i ≤ 255) (hc : i % 16 = 0) :
    Calls Try.prog 86 #[.int .u8 i] w fun e w' => e = .returned (.int .u32 (Cr.tabI i)) ∧ w = w' := by
  have hb : bits .and .u8 i 15 = 0 := by rw [u8_and15 (x := i) h1 (by omega), hc]
  have hv : Cr.tabI i = 0 := by unfold Cr.tabI; rw [hc]; decide
  have hx := tab_i0
  rw [hv]
  clear hv hc
  go_enter Try.func86, Try.ntmps86
  go_wp2_with fail
  go_ret
  exact ⟨rfl, rfl⟩
theorem table_at1 (i : Int) (w : World) (h1 : 0 ≤ i) (h2 : i ≤ 255) (hc : i % 16 = 1) :
    Calls Try.prog 86 #[.int .u8 i] w fun e w' => e = .returned (.int .u32 (Cr.tabI i)) ∧ w = w' := by
  have hb : bits .and .u8 i 15 = 1 := by rw [u8_and15 (x := i) h1 (by omega), hc]
  have hv : Cr.tabI i = 498536548 := by unfold Cr.tabI; rw [hc]; decide
  have hx := tab_i1
  rw [hv]
  clear hv hc
  go_enter Try.func86, Try.ntmps86
  go_wp2_with fail
  go_ret
  exact ⟨rfl, rfl⟩
theorem table_at2 (i : Int) (w : World) (h1 : 0 ≤ i) (h2 : i ≤ 255) (hc : i % 16 = 2) :
    Calls Try.prog 86 #[.int .u8 i] w fun e w' => e = .returned (.int .u32 (Cr.tabI i)) ∧ w = w' := by
  have hb : bits .and .u8 i 15 = 2 := by rw [u8_and15 (x := i) h1 (by omega), hc]
  have hv : Cr.tabI i = 997073096 := by unfold Cr.tabI; rw [hc]; decide
  have hx := tab_i2
  rw [hv]
  clear hv hc
  go_enter Try.func86, Try.ntmps86
  go_wp2_with fail
  go_ret
  exact ⟨rfl, rfl⟩
theorem table_at3 (i : Int) (w : World) (h1 : 0 ≤ i) (h2 : i ≤ 255) (hc : i % 16 = 3) :
    Calls Try.prog 86 #[.int .u8 i] w fun e w' => e = .returned (.int .u32 (Cr.tabI i)) ∧ w = w' := by
  have hb : bits .and .u8 i 15 = 3 := by rw [u8_and15 (x := i) h1 (by omega), hc]
  have hv : Cr.tabI i = 651767980 := by unfold Cr.tabI; rw [hc]; decide
  have hx := tab_i3
  rw [hv]
  clear hv hc
  go_enter Try.func86, Try.ntmps86
  go_wp2_with fail
  go_ret
  exact ⟨rfl, rfl⟩
theorem table_at4 (i : Int) (w : World) (h1 : 0 ≤ i) (h2 : i ≤ 255) (hc : i % 16 = 4) :
    Calls Try.prog 86 #[.int .u8 i] w fun e w' => e = .returned (.int .u32 (Cr.tabI i)) ∧ w = w' := by
  have hb : bits .and .u8 i 15 = 4 := by rw [u8_and15 (x := i) h1 (by omega), hc]
  have hv : Cr.tabI i = 1994146192 := by unfold Cr.tabI; rw [hc]; decide
  have hx := tab_i4
  rw [hv]
  clear hv hc
  go_enter Try.func86, Try.ntmps86
  go_wp2_with fail
  go_ret
  exact ⟨rfl, rfl⟩
theorem table_at5 (i : Int) (w : World) (h1 : 0 ≤ i) (h2 : i ≤ 255) (hc : i % 16 = 5) :
    Calls Try.prog 86 #[.int .u8 i] w fun e w' => e = .returned (.int .u32 (Cr.tabI i)) ∧ w = w' := by
  have hb : bits .and .u8 i 15 = 5 := by rw [u8_and15 (x := i) h1 (by omega), hc]
  have hv : Cr.tabI i = 1802195444 := by unfold Cr.tabI; rw [hc]; decide
  have hx := tab_i5
  rw [hv]
  clear hv hc
  go_enter Try.func86, Try.ntmps86
  go_wp2_with fail
  go_ret
  exact ⟨rfl, rfl⟩
theorem table_at6 (i : Int) (w : World) (h1 : 0 ≤ i) (h2 : i ≤ 255) (hc : i % 16 = 6) :
    Calls Try.prog 86 #[.int .u8 i] w fun e w' => e = .returned (.int .u32 (Cr.tabI i)) ∧ w = w' := by
  have hb : bits .and .u8 i 15 = 6 := by rw [u8_and15 (x := i) h1 (by omega), hc]
  have hv : Cr.tabI i = 1303535960 := by unfold Cr.tabI; rw [hc]; decide
  have hx := tab_i6
  rw [hv]
  clear hv hc
  go_enter Try.func86, Try.ntmps86
  go_wp2_with fail
  go_ret
  exact ⟨rfl, rfl⟩
theorem table_at7 (i : Int) (w : World) (h1 : 0 ≤ i) (h2 : i ≤ 255) (hc : i % 16 = 7) :
    Calls Try.prog 86 #[.int .u8 i] w fun e w' => e = .returned (.int .u32 (Cr.tabI i)) ∧ w = w' := by
  have hb : bits .and .u8 i 15 = 7 := by rw [u8_and15 (x := i) h1 (by omega), hc]
  have hv : Cr.tabI i = 1342533948 := by unfold Cr.tabI; rw [hc]; decide
  have hx := tab_i7
  rw [hv]
  clear hv hc
  go_enter Try.func86, Try.ntmps86
  go_wp2_with fail
  go_ret
  exact ⟨rfl, rfl⟩
theorem table_at8 (i : Int) (w : World) (h1 : 0 ≤ i) (h2 : i ≤ 255) (hc : i % 16 = 8) :
    Calls Try.prog 86 #[.int .u8 i] w fun e w' => e = .returned (.int .u32 (Cr.tabI i)) ∧ w = w' := by
  have hb : bits .and .u8 i 15 = 8 := by rw [u8_and15 (x := i) h1 (by omega), hc]
  have hv : Cr.tabI i = 3988292384 := by unfold Cr.tabI; rw [hc]; decide
  have hx := tab_i8
  rw [hv]
  clear hv hc
  go_enter Try.func86, Try.ntmps86
  go_wp2_with fail
  go_ret
  exact ⟨rfl, rfl⟩
theorem table_at9 (i : Int) (w : World) (h1 : 0 ≤ i) (h2 : i ≤ 255) (hc : i % 16 = 9) :
    Calls Try.prog 86 #[.int .u8 i] w fun e w' => e = .returned (.int .u32 (Cr.tabI i)) ∧ w = w' := by
  have hb : bits .and .u8 i 15 = 9 := by rw [u8_and15 (x := i) h1 (by omega), hc]
  have hv : Cr.tabI i = 4027552580 := by unfold Cr.tabI; rw [hc]; decide
  have hx := tab_i9
  rw [hv]
  clear hv hc
  go_enter Try.func86, Try.ntmps86
  go_wp2_with fail
  go_ret
  exact ⟨rfl, rfl⟩
theorem table_at10 (i : Int) (w : World) (h1 : 0 ≤ i) (h2 : i ≤ 255) (hc : i % 16 = 10) :
    Calls Try.prog 86 #[.int .u8 i] w fun e w' => e = .returned (.int .u32 (Cr.tabI i)) ∧ w = w' := by
  have hb : bits .and .u8 i 15 = 10 := by rw [u8_and15 (x := i) h1 (by omega), hc]
  have hv : Cr.tabI i = 3604390888 := by unfold Cr.tabI; rw [hc]; decide
  have hx := tab_i10
  rw [hv]
  clear hv hc
  go_enter Try.func86, Try.ntmps86
  go_wp2_with fail
  go_ret
  exact ⟨rfl, rfl⟩
theorem table_at11 (i : Int) (w : World) (h1 : 0 ≤ i) (h2 : i ≤ 255) (hc : i % 16 = 11) :
    Calls Try.prog 86 #[.int .u8 i] w fun e w' => e = .returned (.int .u32 (Cr.tabI i)) ∧ w = w' := by
  have hb : bits .and .u8 i 15 = 11 := by rw [u8_and15 (x := i) h1 (by omega), hc]
  have hv : Cr.tabI i = 3412177804 := by unfold Cr.tabI; rw [hc]; decide
  have hx := tab_i11
  rw [hv]
  clear hv hc
  go_enter Try.func86, Try.ntmps86
  go_wp2_with fail
  go_ret
  exact ⟨rfl, rfl⟩
theorem table_at12 (i : Int) (w : World) (h1 : 0 ≤ i) (h2 : i ≤ 255) (hc : i % 16 = 12) :
    Calls Try.prog 86 #[.int .u8 i] w fun e w' => e = .returned (.int .u32 (Cr.tabI i)) ∧ w = w' := by
  have hb : bits .and .u8 i 15 = 12 := by rw [u8_and15 (x := i) h1 (by omega), hc]
  have hv : Cr.tabI i = 2607071920 := by unfold Cr.tabI; rw [hc]; decide
  have hx := tab_i12
  rw [hv]
  clear hv hc
  go_enter Try.func86, Try.ntmps86
  go_wp2_with fail
  go_ret
  exact ⟨rfl, rfl⟩
theorem table_at13 (i : Int) (w : World) (h1 : 0 ≤ i) (h2 : i ≤ 255) (hc : i % 16 = 13) :
    Calls Try.prog 86 #[.int .u8 i] w fun e w' => e = .returned (.int .u32 (Cr.tabI i)) ∧ w = w' := by
  have hb : bits .and .u8 i 15 = 13 := by rw [u8_and15 (x := i) h1 (by omega), hc]
  have hv : Cr.tabI i = 2262029012 := by unfold Cr.tabI; rw [hc]; decide
  have hx := tab_i13
  rw [hv]
  clear hv hc
  go_enter Try.func86, Try.ntmps86
  go_wp2_with fail
  go_ret
  exact ⟨rfl, rfl⟩
theorem table_at14 (i : Int) (w : World) (h1 : 0 ≤ i) (h2 : i ≤ 255) (hc : i % 16 = 14) :
    Calls Try.prog 86 #[.int .u8 i] w fun e w' => e = .returned (.int .u32 (Cr.tabI i)) ∧ w = w' := by
  have hb : bits .and .u8 i 15 = 14 := by rw [u8_and15 (x := i) h1 (by omega), hc]
  have hv : Cr.tabI i = 2685067896 := by unfold Cr.tabI; rw [hc]; decide
  have hx := tab_i14
  rw [hv]
  clear hv hc
  go_enter Try.func86, Try.ntmps86
  go_wp2_with fail
  go_ret
  exact ⟨rfl, rfl⟩
theorem table_at15 (i : Int) (w : World) (h1 : 0 ≤ i) (h2 : i ≤ 255) (hc : i % 16 = 15) :
    Calls Try.prog 86 #[.int .u8 i] w fun e w' => e = .returned (.int .u32 (Cr.tabI i)) ∧ w = w' := by
  have hb : bits .and .u8 i 15 = 15 := by rw [u8_and15 (x := i) h1 (by omega), hc]
  have hv : Cr.tabI i = 3183342108 := by unfold Cr.tabI; rw [hc]; decide
  have hx := tab_i15
  rw [hv]
  clear hv hc
  go_enter Try.func86, Try.ntmps86
  go_wp2_with fail
  go_ret
  exact ⟨rfl, rfl⟩
theorem table_any (i : Int) (w : World) (h1 : 0 ≤ i) (h2 : i ≤ 255) :
    Calls Try.prog 86 #[.int .u8 i] w fun e w' => e = .returned (.int .u32 (Cr.tabI i)) ∧ w = w' := by
  rcases (show i % 16 = 0 ∨ i % 16 = 1 ∨ i % 16 = 2 ∨ i % 16 = 3 ∨ i % 16 = 4 ∨ i % 16 = 5 ∨ i % 16 = 6 ∨ i % 16 = 7 ∨ i % 16 = 8 ∨ i % 16 = 9 ∨ i % 16 = 10 ∨ i % 16 = 11 ∨ i % 16 = 12 ∨ i % 16 = 13 ∨ i % 16 = 14 ∨ i % 16 = 15 from by omega) with
    h | h | h | h | h | h | h | h | h | h | h | h | h | h | h | h
  · exact table_at0 i w h1 h2 h
  · exact table_at1 i w h1 h2 h
  · exact table_at2 i w h1 h2 h
  · exact table_at3 i w h1 h2 h
  · exact table_at4 i w h1 h2 h
  · exact table_at5 i w h1 h2 h
  · exact table_at6 i w h1 h2 h
  · exact table_at7 i w h1 h2 h
  · exact table_at8 i w h1 h2 h
  · exact table_at9 i w h1 h2 h
  · exact table_at10 i w h1 h2 h
  · exact table_at11 i w h1 h2 h
  · exact table_at12 i w h1 h2 h
  · exact table_at13 i w h1 h2 h
  · exact table_at14 i w h1 h2 h
  · exact table_at15 i w h1 h2 h
end Go.Proofs.Ytgcjagffoeoldaa
