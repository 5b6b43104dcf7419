/-
  ImageSame: for every input the Go function answers true, and its arguments read afterwards as they read before. No condition.
-/
import Derived.Lib.AppendZeros
import Derived.Deep.Slices
import Derived.Deep.Fields
import Derived.ChangeSame
import Derived.Test.YtmekhdclnhhhbaaKImageSameb
section
namespace Go.Proofs.Ytmekhdclnhhhbaa
open Go.RowKit
set_option linter.unusedVariables false
set_option maxHeartbeats 400000
theorem tab_i0 (w : World) : (Instr.index 172 (.agg #[.int .u32 0, .int .u32 498536548, .int .u32 997073096, .int .u32 651767980, .int .u32 1994146192, .int .u32 1802195444, .int .u32 1303535960, .int .u32 1342533948, .int .u32 3988292384, .int .u32 4027552580, .int .u32 3604390888, .int .u32 3412177804, .int .u32 2607071920, .int .u32 2262029012, .int .u32 2685067896, .int .u32 3183342108]) (.int .u8 0)).run Try.prog w = .ok (.int .u32 0) w := by kernel_rfl
theorem tab_i1 (w : World) : (Instr.index 172 (.agg #[.int .u32 0, .int .u32 498536548, .int .u32 997073096, .int .u32 651767980, .int .u32 1994146192, .int .u32 1802195444, .int .u32 1303535960, .int .u32 1342533948, .int .u32 3988292384, .int .u32 4027552580, .int .u32 3604390888, .int .u32 3412177804, .int .u32 2607071920, .int .u32 2262029012, .int .u32 2685067896, .int .u32 3183342108]) (.int .u8 1)).run Try.prog w = .ok (.int .u32 498536548) w := by kernel_rfl
theorem tab_i2 (w : World) : (Instr.index 172 (.agg #[.int .u32 0, .int .u32 498536548, .int .u32 997073096, .int .u32 651767980, .int .u32 1994146192, .int .u32 1802195444, .int .u32 1303535960, .int .u32 1342533948, .int .u32 3988292384, .int .u32 4027552580, .int .u32 3604390888, .int .u32 3412177804, .int .u32 2607071920, .int .u32 2262029012, .int .u32 2685067896, .int .u32 3183342108]) (.int .u8 2)).run Try.prog w = .ok (.int .u32 997073096) w := by kernel_rfl
theorem tab_i3 (w : World) : (Instr.index 172 (.agg #[.int .u32 0, .int .u32 498536548, .int .u32 997073096, .int .u32 651767980, .int .u32 1994146192, .int .u32 1802195444, .int .u32 1303535960, .int .u32 1342533948, .int .u32 3988292384, .int .u32 4027552580, .int .u32 3604390888, .int .u32 3412177804, .int .u32 2607071920, .int .u32 2262029012, .int .u32 2685067896, .int .u32 3183342108]) (.int .u8 3)).run Try.prog w = .ok (.int .u32 651767980) w := by kernel_rfl
theorem tab_i4 (w : World) : (Instr.index 172 (.agg #[.int .u32 0, .int .u32 498536548, .int .u32 997073096, .int .u32 651767980, .int .u32 1994146192, .int .u32 1802195444, .int .u32 1303535960, .int .u32 1342533948, .int .u32 3988292384, .int .u32 4027552580, .int .u32 3604390888, .int .u32 3412177804, .int .u32 2607071920, .int .u32 2262029012, .int .u32 2685067896, .int .u32 3183342108]) (.int .u8 4)).run Try.prog w = .ok (.int .u32 1994146192) w := by kernel_rfl
theorem tab_i5 (w : World) : (Instr.index 172 (.agg #[.int .u32 0, .int .u32 498536548, .int .u32 997073096, .int .u32 651767980, .int .u32 1994146192, .int .u32 1802195444, .int .u32 1303535960, .int .u32 1342533948, .int .u32 3988292384, .int .u32 4027552580, .int .u32 3604390888, .int .u32 3412177804, .int .u32 2607071920, .int .u32 2262029012, .int .u32 2685067896, .int .u32 3183342108]) (.int .u8 5)).run Try.prog w = .ok (.int .u32 1802195444) w := by kernel_rfl
theorem tab_i6 (w : World) : (Instr.index 172 (.agg #[.int .u32 0, .int .u32 498536548, .int .u32 997073096, .int .u32 651767980, .int .u32 1994146192, .int .u32 1802195444, .int .u32 1303535960, .int .u32 1342533948, .int .u32 3988292384, .int .u32 4027552580, .int .u32 3604390888, .int .u32 3412177804, .int .u32 2607071920, .int .u32 2262029012, .int .u32 2685067896, .int .u32 3183342108]) (.int .u8 6)).run Try.prog w = .ok (.int .u32 1303535960) w := by kernel_rfl
theorem tab_i7 (w : World) : (Instr.index 172 (.agg #[.int .u32 0, .int .u32 498536548, .int .u32 997073096, .int .u32 651767980, .int .u32 1994146192, .int .u32 1802195444, .int .u32 1303535960, .int .u32 1342533948, .int .u32 3988292384, .int .u32 4027552580, .int .u32 3604390888, .int .u32 3412177804, .int .u32 2607071920, .int .u32 2262029012, .int .u32 2685067896, .int .u32 3183342108]) (.int .u8 7)).run Try.prog w = .ok (.int .u32 1342533948) w := by kernel_rfl
theorem tab_i8 (w : World) : (Instr.index 172 (.agg #[.int .u32 0, .int .u32 498536548, .int .u32 997073096, .int .u32 651767980, .int .u32 1994146192, .int .u32 1802195444, .int .u32 1303535960, .int .u32 1342533948, .int .u32 3988292384, .int .u32 4027552580, .int .u32 3604390888, .int .u32 3412177804, .int .u32 2607071920, .int .u32 2262029012, .int .u32 2685067896, .int .u32 3183342108]) (.int .u8 8)).run Try.prog w = .ok (.int .u32 3988292384) w := by kernel_rfl
theorem tab_i9 (w : World) : (Instr.index 172 (.agg #[.int .u32 0, .int .u32 498536548, .int .u32 997073096, .int .u32 651767980, .int .u32 1994146192, .int .u32 1802195444, .int .u32 1303535960, .int .u32 1342533948, .int .u32 3988292384, .int .u32 4027552580, .int .u32 3604390888, .int .u32 3412177804, .int .u32 2607071920, .int .u32 2262029012, .int .u32 2685067896, .int .u32 3183342108]) (.int .u8 9)).run Try.prog w = .ok (.int .u32 4027552580) w := by kernel_rfl
theorem tab_i10 (w : World) : (Instr.index 172 (.agg #[.int .u32 0, .int .u32 498536548, .int .u32 997073096, .int .u32 651767980, .int .u32 1994146192, .int .u32 1802195444, .int .u32 1303535960, .int .u32 1342533948, .int .u32 3988292384, .int .u32 4027552580, .int .u32 3604390888, .int .u32 3412177804, .int .u32 2607071920, .int .u32 2262029012, .int .u32 2685067896, .int .u32 3183342108]) (.int .u8 10)).run Try.prog w = .ok (.int .u32 3604390888) w := by kernel_rfl
theorem tab_i11 (w : World) : (Instr.index 172 (.agg #[.int .u32 0, .int .u32 498536548, .int .u32 997073096, .int .u32 651767980, .int .u32 1994146192, .int .u32 1802195444, .int .u32 1303535960, .int .u32 1342533948, .int .u32 3988292384, .int .u32 4027552580, .int .u32 3604390888, .int .u32 3412177804, .int .u32 2607071920, .int .u32 2262029012, .int .u32 2685067896, .int .u32 3183342108]) (.int .u8 11)).run Try.prog w = .ok (.int .u32 3412177804) w := by kernel_rfl
theorem tab_i12 (w : World) : (Instr.index 172 (.agg #[.int .u32 0, .int .u32 498536548, .int .u32 997073096, .int .u32 651767980, .int .u32 1994146192, .int .u32 1802195444, .int .u32 1303535960, .int .u32 1342533948, .int .u32 3988292384, .int .u32 4027552580, .int .u32 3604390888, .int .u32 3412177804, .int .u32 2607071920, .int .u32 2262029012, .int .u32 2685067896, .int .u32 3183342108]) (.int .u8 12)).run Try.prog w = .ok (.int .u32 2607071920) w := by kernel_rfl
theorem tab_i13 (w : World) : (Instr.index 172 (.agg #[.int .u32 0, .int .u32 498536548, .int .u32 997073096, .int .u32 651767980, .int .u32 1994146192, .int .u32 1802195444, .int .u32 1303535960, .int .u32 1342533948, .int .u32 3988292384, .int .u32 4027552580, .int .u32 3604390888, .int .u32 3412177804, .int .u32 2607071920, .int .u32 2262029012, .int .u32 2685067896, .int .u32 3183342108]) (.int .u8 13)).run Try.prog w = .ok (.int .u32 2262029012) w := by kernel_rfl
theorem tab_i14 (w : World) : (Instr.index 172 (.agg #[.int .u32 0, .int .u32 498536548, .int .u32 997073096, .int .u32 651767980, .int .u32 1994146192, .int .u32 1802195444, .int .u32 1303535960, .int .u32 1342533948, .int .u32 3988292384, .int .u32 4027552580, .int .u32 3604390888, .int .u32 3412177804, .int .u32 2607071920, .int .u32 2262029012, .int .u32 2685067896, .int .u32 3183342108]) (.int .u8 14)).run Try.prog w = .ok (.int .u32 2685067896) w := by kernel_rfl
theorem tab_i15 (w : World) : (Instr.index 172 (.agg #[.int .u32 0, .int .u32 498536548, .int .u32 997073096, .int .u32 651767980, .int .u32 1994146192, .int .u32 1802195444, .int .u32 1303535960, .int .u32 1342533948, .int .u32 3988292384, .int .u32 4027552580, .int .u32 3604390888, .int .u32 3412177804, .int .u32 2607071920, .int .u32 2262029012, .int .u32 2685067896, .int .u32 3183342108]) (.int .u8 15)).run Try.prog w = .ok (.int .u32 3183342108) w := by kernel_rfl
theorem table_at0 (i : Int) (w : World) (h1 : 0 ≤ i) (h2 : i ≤ 255) (hc : i % 16 = 0) :
    Calls Try.prog 126 #[.int .u8 i] w fun e w' => e = .returned (.int .u32 (Cr.tabI i)) ∧ w = w' := by
  have hb : bits .and .u8 i 15 = 0 := by rw [u8_and15 (x := i) h1 (by omega), hc]
  have hv : Cr.tabI i = 0 := by unfold Cr.tabI; rw [hc]; decide
  have hx := tab_i0
  rw [hv]
  clear hv hc
  go_enter Try.func126, Try.ntmps126
  go_wp2_with fail
  go_ret
  exact ⟨rfl, rfl⟩
theorem table_at1 (i : Int) (w : World) (h1 : 0 ≤ i) (h2 : i ≤ 255) (hc : i % 16 = 1) :
    Calls Try.prog 126 #[.int .u8 i] w fun e w' => e = .returned (.int .u32 (Cr.tabI i)) ∧ w = w' := by
  have hb : bits .and .u8 i 15 = 1 := by rw [u8_and15 (x := i) h1 (by omega), hc]
  have hv : Cr.tabI i = 498536548 := by unfold Cr.tabI; rw [hc]; decide
  have hx := tab_i1
  rw [hv]
  clear hv hc
  go_enter Try.func126, Try.ntmps126
  go_wp2_with fail
  go_ret
  exact ⟨rfl, rfl⟩
theorem table_at2 (i : Int) (w : World) (h1 : 0 ≤ i) (h2 : i ≤ 255) (hc : i % 16 = 2) :
    Calls Try.prog 126 #[.int .u8 i] w fun e w' => e = .returned (.int .u32 (Cr.tabI i)) ∧ w = w' := by
  have hb : bits .and .u8 i 15 = 2 := by rw [u8_and15 (x := i) h1 (by omega), hc]
  have hv : Cr.tabI i = 997073096 := by unfold Cr.tabI; rw [hc]; decide
  have hx := tab_i2
  rw [hv]
  clear hv hc
  go_enter Try.func126, Try.ntmps126
  go_wp2_with fail
  go_ret
  exact ⟨rfl, rfl⟩
theorem table_at3 (i : Int) (w : World) (h1 : 0 ≤ i) (h2 : i ≤ 255) (hc : i % 16 = 3) :
    Calls Try.prog 126 #[.int .u8 i] w fun e w' => e = .returned (.int .u32 (Cr.tabI i)) ∧ w = w' := by
  have hb : bits .and .u8 i 15 = 3 := by rw [u8_and15 (x := i) h1 (by omega), hc]
  have hv : Cr.tabI i = 651767980 := by unfold Cr.tabI; rw [hc]; decide
  have hx := tab_i3
  rw [hv]
  clear hv hc
  go_enter Try.func126, Try.ntmps126
  go_wp2_with fail
  go_ret
  exact ⟨rfl, rfl⟩
theorem table_at4 (i : Int) (w : World) (h1 : 0 ≤ i) (h2 : i ≤ 255) (hc : i % 16 = 4) :
    Calls Try.prog 126 #[.int .u8 i] w fun e w' => e = .returned (.int .u32 (Cr.tabI i)) ∧ w = w' := by
  have hb : bits .and .u8 i 15 = 4 := by rw [u8_and15 (x := i) h1 (by omega), hc]
  have hv : Cr.tabI i = 1994146192 := by unfold Cr.tabI; rw [hc]; decide
  have hx := tab_i4
  rw [hv]
  clear hv hc
  go_enter Try.func126, Try.ntmps126
  go_wp2_with fail
  go_ret
  exact ⟨rfl, rfl⟩
theorem table_at5 (i : Int) (w : World) (h1 : 0 ≤ i) (h2 : i ≤ 255) (hc : i % 16 = 5) :
    Calls Try.prog 126 #[.int .u8 i] w fun e w' => e = .returned (.int .u32 (Cr.tabI i)) ∧ w = w' := by
  have hb : bits .and .u8 i 15 = 5 := by rw [u8_and15 (x := i) h1 (by omega), hc]
  have hv : Cr.tabI i = 1802195444 := by unfold Cr.tabI; rw [hc]; decide
  have hx := tab_i5
  rw [hv]
  clear hv hc
  go_enter Try.func126, Try.ntmps126
  go_wp2_with fail
  go_ret
  exact ⟨rfl, rfl⟩
theorem table_at6 (i : Int) (w : World) (h1 : 0 ≤ i) (h2 : i ≤ 255) (hc : i % 16 = 6) :
    Calls Try.prog 126 #[.int .u8 i] w fun e w' => e = .returned (.int .u32 (Cr.tabI i)) ∧ w = w' := by
  have hb : bits .and .u8 i 15 = 6 := by rw [u8_and15 (x := i) h1 (by omega), hc]
  have hv : Cr.tabI i = 1303535960 := by unfold Cr.tabI; rw [hc]; decide
  have hx := tab_i6
  rw [hv]
  clear hv hc
  go_enter Try.func126, Try.ntmps126
  go_wp2_with fail
  go_ret
  exact ⟨rfl, rfl⟩
theorem table_at7 (i : Int) (w : World) (h1 : 0 ≤ i) (h2 : i ≤ 255) (hc : i % 16 = 7) :
    Calls Try.prog 126 #[.int .u8 i] w fun e w' => e = .returned (.int .u32 (Cr.tabI i)) ∧ w = w' := by
  have hb : bits .and .u8 i 15 = 7 := by rw [u8_and15 (x := i) h1 (by omega), hc]
  have hv : Cr.tabI i = 1342533948 := by unfold Cr.tabI; rw [hc]; decide
  have hx := tab_i7
  rw [hv]
  clear hv hc
  go_enter Try.func126, Try.ntmps126
  go_wp2_with fail
  go_ret
  exact ⟨rfl, rfl⟩
theorem table_at8 (i : Int) (w : World) (h1 : 0 ≤ i) (h2 : i ≤ 255) (hc : i % 16 = 8) :
    Calls Try.prog 126 #[.int .u8 i] w fun e w' => e = .returned (.int .u32 (Cr.tabI i)) ∧ w = w' := by
  have hb : bits .and .u8 i 15 = 8 := by rw [u8_and15 (x := i) h1 (by omega), hc]
  have hv : Cr.tabI i = 3988292384 := by unfold Cr.tabI; rw [hc]; decide
  have hx := tab_i8
  rw [hv]
  clear hv hc
  go_enter Try.func126, Try.ntmps126
  go_wp2_with fail
  go_ret
  exact ⟨rfl, rfl⟩
theorem table_at9 (i : Int) (w : World) (h1 : 0 ≤ i) (h2 : i ≤ 255) (hc : i % 16 = 9) :
    Calls Try.prog 126 #[.int .u8 i] w fun e w' => e = .returned (.int .u32 (Cr.tabI i)) ∧ w = w' := by
  have hb : bits .and .u8 i 15 = 9 := by rw [u8_and15 (x := i) h1 (by omega), hc]
  have hv : Cr.tabI i = 4027552580 := by unfold Cr.tabI; rw [hc]; decide
  have hx := tab_i9
  rw [hv]
  clear hv hc
  go_enter Try.func126, Try.ntmps126
  go_wp2_with fail
  go_ret
  exact ⟨rfl, rfl⟩
theorem table_at10 (i : Int) (w : World) (h1 : 0 ≤ i) (h2 : i ≤ 255) (hc : i % 16 = 10) :
    Calls Try.prog 126 #[.int .u8 i] w fun e w' => e = .returned (.int .u32 (Cr.tabI i)) ∧ w = w' := by
  have hb : bits .and .u8 i 15 = 10 := by rw [u8_and15 (x := i) h1 (by omega), hc]
  have hv : Cr.tabI i = 3604390888 := by unfold Cr.tabI; rw [hc]; decide
  have hx := tab_i10
  rw [hv]
  clear hv hc
  go_enter Try.func126, Try.ntmps126
  go_wp2_with fail
  go_ret
  exact ⟨rfl, rfl⟩
theorem table_at11 (i : Int) (w : World) (h1 : 0 ≤ i) (h2 : i ≤ 255) (hc : i % 16 = 11) :
    Calls Try.prog 126 #[.int .u8 i] w fun e w' => e = .returned (.int .u32 (Cr.tabI i)) ∧ w = w' := by
  have hb : bits .and .u8 i 15 = 11 := by rw [u8_and15 (x := i) h1 (by omega), hc]
  have hv : Cr.tabI i = 3412177804 := by unfold Cr.tabI; rw [hc]; decide
  have hx := tab_i11
  rw [hv]
  clear hv hc
  go_enter Try.func126, Try.ntmps126
  go_wp2_with fail
  go_ret
  exact ⟨rfl, rfl⟩
theorem table_at12 (i : Int) (w : World) (h1 : 0 ≤ i) (h2 : i ≤ 255) (hc : i % 16 = 12) :
    Calls Try.prog 126 #[.int .u8 i] w fun e w' => e = .returned (.int .u32 (Cr.tabI i)) ∧ w = w' := by
  have hb : bits .and .u8 i 15 = 12 := by rw [u8_and15 (x := i) h1 (by omega), hc]
  have hv : Cr.tabI i = 2607071920 := by unfold Cr.tabI; rw [hc]; decide
  have hx := tab_i12
  rw [hv]
  clear hv hc
  go_enter Try.func126, Try.ntmps126
  go_wp2_with fail
  go_ret
  exact ⟨rfl, rfl⟩
theorem table_at13 (i : Int) (w : World) (h1 : 0 ≤ i) (h2 : i ≤ 255) (hc : i % 16 = 13) :
    Calls Try.prog 126 #[.int .u8 i] w fun e w' => e = .returned (.int .u32 (Cr.tabI i)) ∧ w = w' := by
  have hb : bits .and .u8 i 15 = 13 := by rw [u8_and15 (x := i) h1 (by omega), hc]
  have hv : Cr.tabI i = 2262029012 := by unfold Cr.tabI; rw [hc]; decide
  have hx := tab_i13
  rw [hv]
  clear hv hc
  go_enter Try.func126, Try.ntmps126
  go_wp2_with fail
  go_ret
  exact ⟨rfl, rfl⟩
theorem table_at14 (i : Int) (w : World) (h1 : 0 ≤ i) (h2 : i ≤ 255) (hc : i % 16 = 14) :
    Calls Try.prog 126 #[.int .u8 i] w fun e w' => e = .returned (.int .u32 (Cr.tabI i)) ∧ w = w' := by
  have hb : bits .and .u8 i 15 = 14 := by rw [u8_and15 (x := i) h1 (by omega), hc]
  have hv : Cr.tabI i = 2685067896 := by unfold Cr.tabI; rw [hc]; decide
  have hx := tab_i14
  rw [hv]
  clear hv hc
  go_enter Try.func126, Try.ntmps126
  go_wp2_with fail
  go_ret
  exact ⟨rfl, rfl⟩
theorem table_at15 (i : Int) (w : World) (h1 : 0 ≤ i) (h2 : i ≤ 255) (hc : i % 16 = 15) :
    Calls Try.prog 126 #[.int .u8 i] w fun e w' => e = .returned (.int .u32 (Cr.tabI i)) ∧ w = w' := by
  have hb : bits .and .u8 i 15 = 15 := by rw [u8_and15 (x := i) h1 (by omega), hc]
  have hv : Cr.tabI i = 3183342108 := by unfold Cr.tabI; rw [hc]; decide
  have hx := tab_i15
  rw [hv]
  clear hv hc
  go_enter Try.func126, Try.ntmps126
  go_wp2_with fail
  go_ret
  exact ⟨rfl, rfl⟩
theorem table_any (i : Int) (w : World) (h1 : 0 ≤ i) (h2 : i ≤ 255) :
    Calls Try.prog 126 #[.int .u8 i] w fun e w' => e = .returned (.int .u32 (Cr.tabI i)) ∧ w = w' := by
  rcases (show i % 16 = 0 ∨ i % 16 = 1 ∨ i % 16 = 2 ∨ i % 16 = 3 ∨ i % 16 = 4 ∨ i % 16 = 5 ∨ i % 16 = 6 ∨ i % 16 = 7 ∨ i % 16 = 8 ∨ i % 16 = 9 ∨ i % 16 = 10 ∨ i % 16 = 11 ∨ i % 16 = 12 ∨ i % 16 = 13 ∨ i % 16 = 14 ∨ i % 16 = 15 from by omega) with
    h | h | h | h | h | h | h | h | h | h | h | h | h | h | h | h
  · exact table_at0 i w h1 h2 h
  · exact table_at1 i w h1 h2 h
  · exact table_at2 i w h1 h2 h
  · exact table_at3 i w h1 h2 h
  · exact table_at4 i w h1 h2 h
  · exact table_at5 i w h1 h2 h
  · exact table_at6 i w h1 h2 h
  · exact table_at7 i w h1 h2 h
  · exact table_at8 i w h1 h2 h
  · exact table_at9 i w h1 h2 h
  · exact table_at10 i w h1 h2 h
  · exact table_at11 i w h1 h2 h
  · exact table_at12 i w h1 h2 h
  · exact table_at13 i w h1 h2 h
  · exact table_at14 i w h1 h2 h
  · exact table_at15 i w h1 h2 h
end Go.Proofs.Ytmekhdclnhhhbaa
end

section
namespace Go.Proofs.Ytmekhdclnhhhbaa
open Go.RowKit
set_option linter.unusedVariables false
set_option maxHeartbeats 400000
theorem more_any (s : Int) (A : Option Addr) (len cap : Nat) (xs : List Int) (B : Nat) (w : World) (h1 : 0 ≤ s) (h2 : s ≤ 4294967295) (hr : RowAt w B A len (xs.map (Value.int .u8))) (hi : Ints .u8 xs) (hl : len ≤ 9223372036854775807) :
    Calls Try.prog 121 #[.int .u32 s, .slice A len cap] w fun e w' => e = .returned (.int .u32 (Cr.more s xs)) ∧ w = w' := by
  have hb : ∀ b ∈ xs, 0 ≤ b ∧ b ≤ 255 := fun b hb => bounds_u8 (hi b hb)
  have HB := Lib.hid hb
  have HI := Lib.hid hi
  have HR := Lib.hid hr
  have hlen : xs.length = len := by simpa using hr.1
  have HL := Lib.hid hlen
  clear hb hi hr hlen
  have hn := Cr.not_code s h1 h2
  have hfin := Lib.hid (Cr.more_code s xs h1 h2 HB.out)
  go_enter Try.func121, Try.ntmps121
  go_wp2_with fail
  go_loop [0, 6, 11] (fun s' _u t => ∃ j : Nat, j ≤ len ∧ t = .int .i64 j ∧ s' = .int .u32 (Cr.run (4294967295 - s) (xs.take j))) (fun _ _ t => len - (intOf t).toNat)
  case atStart => exact ⟨0, by omega, rfl, rfl⟩
  case round =>
    obtain ⟨j, hj, rfl, rfl⟩ := hrel
    have hbd := Cr.run_bd (xs.take j) (4294967295 - s) (by omega) (by omega) (fun b hb => HB.out b (List.mem_of_mem_take hb))
    by_cases hlt : j < len
    · obtain ⟨b, off, z, rfl, hbl, hz, hwz, hc⟩ := HR.out.int HI.out hlt
      have hzb := bounds_u8 hwz
      have HN := Lib.hid (Cr.run_snoc (4294967295 - s) (xs.take j) z)
      have HT := Lib.hid (take_succ_of hz)
      clear hz hwz
      generalize Cr.run (4294967295 - s) (xs.take j) = r at *
      have hh := Cr.half_code r z hbd.1 hbd.2 hzb.1 hzb.2
      obtain ⟨s1, hs1⟩ : ∃ s1, bits .xor .u32 (Cr.tabI (bits .xor .u8 (r % 256) z)) (r / 16) = s1 := ⟨_, rfl⟩
      have hsb := Cr.half_bd r z s1 hbd.1 hbd.2 hzb.1 hzb.2 hs1
      have hcode := Cr.byte_code r z s1 hbd.1 hbd.2 hzb.1 hzb.2 hs1
      have hh2 := (Cr.half_code s1 (z / 16) hsb.1 hsb.2 (by omega) (by omega)).2
      have hh1 := hh.2
      clear hh
      have t1 := Cr.tabI_bd (bits .xor .u8 (r % 256) z)
      go_wp2_with (first
      | (go_at_call 126; refine (table_any _ _ (by omega) (by omega)).mono ?_; rintro e w' ⟨rfl, rfl⟩))
      go_round
      case rel => exact ⟨j + 1, by omega, by go_num, by rw [HT.out, HN.out]⟩
      case measure => simp [intOf]; omega
    · go_wp2_with fail
      go_ret
      exact ⟨ret_int (by rw [← hfin.out]; congr 2; rw [List.take_of_length_le (by rw [HL.out]; omega)]), rfl⟩
theorem sum_any (A : Option Addr) (len cap : Nat) (xs : List Int) (B : Nat) (w : World) (hr : RowAt w B A len (xs.map (Value.int .u8))) (hi : Ints .u8 xs) (hl : len ≤ 9223372036854775807) :
    Calls Try.prog 113 #[.slice A len cap] w fun e w' => e = .returned (.int .u32 (Cr.more 0 xs)) ∧ w = w' := by
  go_enter Try.func113, Try.ntmps113
  go_wp2_with fail
  refine (more_any 0 A len cap xs B _ (by omega) (by omega) hr hi hl).mono ?_
  rintro e w' ⟨rfl, rfl⟩
  go_wp2_with fail
  go_ret
  exact ⟨rfl, rfl⟩
end Go.Proofs.Ytmekhdclnhhhbaa
end

section
namespace Go.Proofs.Ytmekhdclnhhhbaa
open Go.RowKit
set_option linter.unusedVariables false
set_option maxHeartbeats 400000
set_option maxRecDepth 100000
theorem bytes_any (A : Option Addr) (len cap : Nat) (xs : List Int) (B : Nat) (w : World) (hr : RowAt w B A len (xs.map (Value.int .u64))) (hi : Ints .u64 xs) (hl : len ≤ 1099511627776) (hB : B ≤ w.heap.size) :
    Calls Try.prog 86 #[.slice A len cap] w fun e w' => ∃ v, e = .returned v ∧ w'.ownsRow w.heap.size 5 1 v (8 * len) ((By.bytes xs).map (Value.int .u8)) ∧ Below w.heap.size w w' := by
  obtain ⟨i0, hi0, hz0, hz1, hz2⟩ := info_parts info_u8
  have HI := Lib.hid hi
  have HR := Lib.hid hr
  have hlen : xs.length = len := by simpa using hr.1
  have HL := Lib.hid hlen
  clear hi hr hlen
  go_enter Try.func86, Try.ntmps86
  go_wp2_with (first
    | (at_make; refine wpList_make_own (P := Try.prog) _ rfl _ _ 49 rfl w.heap.size 5 i0 (.int .u8 0) 1 Try.underlying49 hi0 hz0 hz1 .i64 .i64 (8 * (len : Int)) (8 * len) rfl rfl (by omega) (by rw [hz2]; omega) (by unfold maxLen; omega) (Nat.le_refl _) ?_; intro w1 hown0 hg0))
  have hb0 : Below w.heap.size w w1 := (Below.refl _ _).grown hg0 (Nat.le_refl _) (by intro k hk; cases hk)
  clear hg0
  go_loopw [3, 5, 6, 13, 17] (fun v _a _b t _c wr => ∃ j : Nat, j ≤ len ∧ t = .int .i64 j ∧ wr.ownsRow w.heap.size 5 1 v (8 * j) ((By.bytes (xs.take j)).map (Value.int .u8)) ∧ Below w.heap.size w wr) (fun _ _ _ t _ _ => len - (intOf t).toNat)
  case atStart => exact ⟨0, by omega, rfl, hown0, hb0⟩
  case round =>
    clear hown0 hb0
    obtain ⟨j, hj, rfl, hown, hbe⟩ := hrel
    have hsz := hbe.size
    by_cases hlt : j < len
    · obtain ⟨b, off, z, rfl, hbl, hz, hwz, hc⟩ := HR.out.int HI.out hlt
      have hzb := bounds_u64 hwz
      have hc2 := (hbe.cell (p := ⟨b, off + j, none⟩) (by simp; omega)).trans hc
      have HT := Lib.hid (take_succ_of hz)
      clear hz hwz hc
      go_wp2_with fail
      go_loopw [3, 6, 17] (fun v _b t wr => ∃ k : Nat, k ≤ 8 ∧ t = .int .i64 k ∧ wr.ownsRow w.heap.size 5 1 v (8 * j + k) ((By.bytes (xs.take j) ++ By.bytesTo z k).map (Value.int .u8)) ∧ Below w.heap.size w wr) (fun _ _ t _ => 8 - (intOf t).toNat)
      case atStart => exact ⟨0, by omega, rfl, by rw [By.bytesTo_zero, List.append_nil]; exact hown, hbe⟩
      case round =>
        clear hown hbe hc2 hsz
        obtain ⟨k, hk, rfl, hown, hbe⟩ := hrel
        have hsz := hbe.size
        have hkb := By.rest_bd z k hzb.2
        have hbs := Lib.hid (By.bytesTo_succ z k)
        by_cases hlk : k < 8
        · have hba : By.rest z k % 256 = By.byteAt z k := rfl
          have hbb := By.byteAt_bd z k
          have HBA := Lib.hid hba
          clear hba
          have hsh := By.rest_shr z k hzb.1
          go_wp2_with (first
            | (at_builtin; refine wpList_app1 (P := Try.prog) rfl (.tmp 20) (.tmp 27) 49 rfl w.heap.size 5 i0 (.int .u8 0) 1 Try.underlying49 hi0 hz0 hz1 hz2 rfl _ _ _ rfl hown _ _ rfl rfl (by unfold maxLen; omega) (by omega) hsz w.heap.size w hbe (Nat.le_refl _) ?_; intro v' w' hown' hbe' hlt' _))
          clear hsh
          go_roundw
          case rel =>
            refine ⟨k + 1, by omega, by go_num, ?_, hbe'⟩
            rw [hbs.out, ← List.append_assoc, By.map_snoc, ← HBA.out]
            exact hown'
          case measure => simp [intOf]; omega
        · obtain rfl : k = 8 := by omega
          go_wp2_with fail
          go_roundw
          case rel =>
            refine ⟨j + 1, by omega, by go_num, ?_, hbe⟩
            rw [HT.out, By.bytes_snoc]
            exact hown
          case measure => simp [intOf]; omega
    · go_wp2_with fail
      go_ret
      obtain rfl : j = len := by omega
      rw [List.take_of_length_le (by rw [HL.out]; exact Nat.le_refl _)] at hown
      exact ⟨_, rfl, hown, hbe⟩
end Go.Proofs.Ytmekhdclnhhhbaa
end

section
namespace Go.Proofs.Ytmekhdclnhhhbaa.Sl
set_option linter.unusedVariables false
open Go Go.RowKit
def sum (n q : Int) : Int := Cr.more 0 (By.bytes [n, q])
theorem sum_bd (n q : Int) : 0 ≤ Cr.more 0 (By.bytes [n, q]) ∧ Cr.more 0 (By.bytes [n, q]) ≤ 4294967295 := Cr.more_bd 0 _ (by omega) (by omega) (By.bytes_bd _)
end Go.Proofs.Ytmekhdclnhhhbaa.Sl
end

section
namespace Go.Proofs.Ytmekhdclnhhhbaa
open Go.RowKit
set_option linter.unusedVariables false
set_option maxHeartbeats 400000
theorem crcWords_any (A : Option Addr) (len cap : Nat) (xs : List Int) (B : Nat) (w : World) (hr : RowAt w B A len (xs.map (Value.int .u64))) (hi : Ints .u64 xs) (hl : len ≤ 1099511627776) (hB : B ≤ w.heap.size) :
    Calls Try.prog 82 #[.slice A len cap] w fun e w' => e = .returned (.int .u32 (Cr.more 0 (By.bytes xs))) ∧ Below w.heap.size w w' := by
  go_enter Try.func82, Try.ntmps82
  go_wp2_with fail
  refine (bytes_any A len cap xs B _ hr hi hl hB).mono ?_
  rintro e w1 ⟨v, rfl, hown, hb⟩
  obtain ⟨A', c', rfl, hc1, hc2, _⟩ := own_shape hown
  go_wp2_with fail
  refine (sum_any A' (8 * len) c' (By.bytes xs) _ _ (RowAt.of_own hown) (fun z hz => wf_u8 (By.bytes_bd xs z hz)) (by omega)).mono ?_
  rintro e w' ⟨rfl, rfl⟩
  go_wp2_with fail
  go_ret
  exact ⟨rfl, hb⟩
end Go.Proofs.Ytmekhdclnhhhbaa
end

section
namespace Go.Proofs.Ytmekhdclnhhhbaa.Im
def zr : List Int → Nat
  | [] => 0
  | x :: l => if x = 0 then zr l + 1 else 0
def nr : List Int → Nat
  | [] => 0
  | x :: l => if x = 0 then 0 else nr l + 1
theorem zr_le : ∀ l, zr l ≤ l.length
  | [] => Nat.le_refl _
  | x :: l => by have := zr_le l; unfold zr; split <;> simp <;> omega
theorem nr_le : ∀ l, nr l ≤ l.length
  | [] => Nat.le_refl _
  | x :: l => by have := nr_le l; unfold nr; split <;> simp <;> omega
theorem zr_get : ∀ (l : List Int) (k : Nat), k < zr l → l[k]? = some 0
  | [], k, h => by simp [zr] at h
  | x :: l, k, h => by
    unfold zr at h
    split at h
    · rename_i hx
      cases k with
      | zero => simp [hx]
      | succ k => simpa using zr_get l k (by omega)
    · omega
theorem zr_end : ∀ (l : List Int), zr l < l.length → ∃ z, l[zr l]? = some z ∧ z ≠ 0
  | [], h => by simp at h
  | x :: l, h => by
    unfold zr at h ⊢
    split
    · rename_i hx
      rw [if_pos hx] at h
      obtain ⟨z, hz, h0⟩ := zr_end l (by simpa using h)
      exact ⟨z, by simpa using hz, h0⟩
    · rename_i hx; exact ⟨x, by simp, hx⟩
theorem nr_get : ∀ (l : List Int) (k : Nat), k < nr l → ∃ z, l[k]? = some z ∧ z ≠ 0
  | [], k, h => by simp [nr] at h
  | x :: l, k, h => by
    unfold nr at h
    split at h
    · omega
    · rename_i hx
      cases k with
      | zero => exact ⟨x, by simp, hx⟩
      | succ k => simpa using nr_get l k (by omega)
theorem nr_end : ∀ (l : List Int), nr l < l.length → l[nr l]? = some 0
  | [], h => by simp at h
  | x :: l, h => by
    unfold nr at h ⊢
    split
    · rename_i hx; simp [hx]
    · rename_i hx
      rw [if_neg hx] at h
      simpa using nr_end l (by simpa using h)
/-- how many words the first run has -/
def step (l : List Int) : Nat := zr l + nr (l.drop (zr l))
theorem step_le (l : List Int) : step l ≤ l.length := by
  have h1 := zr_le l; have h2 := nr_le (l.drop (zr l)); rw [List.length_drop] at h2; unfold step; omega
theorem step_pos (l : List Int) (h : l ≠ []) : 0 < step l := by
  cases l with
  | nil => exact absurd rfl h
  | cons x l =>
    unfold step
    by_cases hx : x = 0
    · simp [zr, hx]; omega
    · simp [zr, nr, hx]
def runs : Nat → List Int → List (Nat × List Int)
  | 0, _ => []
  | f + 1, l => if l = [] then [] else (zr l, (l.drop (zr l)).take (nr (l.drop (zr l)))) :: runs f (l.drop (step l))
theorem runs_fuel : ∀ (f g : Nat) (l : List Int), l.length ≤ f → l.length ≤ g → runs f l = runs g l
  | 0, g, l, h, _ => by
    obtain rfl : l = [] := List.eq_nil_of_length_eq_zero (by omega)
    cases g <;> simp [runs]
  | f + 1, 0, l, _, h => by
    obtain rfl : l = [] := List.eq_nil_of_length_eq_zero (by omega)
    simp [runs]
  | f + 1, g + 1, l, h1, h2 => by
    unfold runs
    split
    · rfl
    · rename_i hl
      have h3 := step_pos l hl
      have h4 := step_le l
      rw [runs_fuel f g (l.drop (step l)) (by rw [List.length_drop]; omega) (by rw [List.length_drop]; omega)]
def rn (l : List Int) : List (Nat × List Int) := runs l.length l
theorem rn_nil : rn [] = [] := rfl
theorem rn_cons (l : List Int) (h : l ≠ []) : rn l = (zr l, (l.drop (zr l)).take (nr (l.drop (zr l)))) :: rn (l.drop (step l)) := by
  have h1 := step_pos l h
  have h2 := step_le l
  have e : (l.length - 1) + 1 = l.length := by omega
  have e2 : runs l.length l = runs ((l.length - 1) + 1) l := by rw [e]
  unfold rn
  rw [e2]
  show (if l = [] then [] else (zr l, (l.drop (zr l)).take (nr (l.drop (zr l)))) :: runs (l.length - 1) (l.drop (step l))) = _
  rw [if_neg h]
  congr 1
  exact runs_fuel (l.length - 1) (l.drop (step l)).length (l.drop (step l)) (by rw [List.length_drop]; omega) (Nat.le_refl _)
def enc1 (r : Nat × List Int) : List Int := (r.1 : Int) :: (r.2.length : Int) :: r.2
def encs (rs : List (Nat × List Int)) : List Int := rs.flatMap enc1
def body (l : List Int) : List Int := encs (rn l)
theorem body_nil : body [] = [] := rfl
theorem body_cons (l : List Int) (h : l ≠ []) : body l = (zr l : Int) :: (nr (l.drop (zr l)) : Int) :: ((l.drop (zr l)).take (nr (l.drop (zr l))) ++ body (l.drop (step l))) := by
  unfold body
  rw [rn_cons l h]
  have h2 := nr_le (l.drop (zr l))
  simp only [encs, List.flatMap_cons, enc1, List.cons_append, List.length_take, Nat.min_eq_left h2]
theorem body_len : ∀ (k : Nat) (l : List Int), l.length ≤ k → (body l).length ≤ 3 * l.length
  | 0, l, h => by
    obtain rfl : l = [] := List.eq_nil_of_length_eq_zero (by omega)
    simp [body_nil]
  | k + 1, l, h => by
    by_cases hl : l = []
    · subst hl; simp [body_nil]
    · have h1 := step_pos l hl
      have h2 := step_le l
      have ih := body_len k (l.drop (step l)) (by rw [List.length_drop]; omega)
      have h3 := nr_le (l.drop (zr l))
      have h4 := zr_le l
      rw [body_cons l hl]
      simp only [List.length_cons, List.length_append, List.length_take]
      rw [List.length_drop] at ih h3
      rw [List.length_drop]
      have : step l = zr l + nr (l.drop (zr l)) := rfl
      omega
def magic : Int := 13905993476890996
def head (l : List Int) : List Int := magic :: (l.length : Int) :: body l
def sum (l : List Int) : Int := Cr.more 0 (By.bytes l)
def out (l : List Int) : List Int := head l ++ [sum (head l)]
def save (l : List Int) : List Int := By.bytes (out l)
/-! reading -/
def bad (z m left o : Int) : Bool := decide (z > left ∨ m > left - z ∨ z + m = 0 ∨ (0 < o ∧ z = 0) ∨ (m = 0 ∧ z ≠ left))
def noZero (l : List Int) : Bool := l.all (fun x => decide (x ≠ 0))
def read : Nat → List Int → Int → List Int → List Int × Int
  | 0, _, _, _ => ([], 31)
  | f + 1, w, n, o =>
    if (o.length : Int) < n then
      if w.length < 2 then ([], 31)
      else if bad (w.getD 0 0) (w.getD 1 0) (n - o.length) o.length = true then ([], 26)
      else if (w.getD 1 0) > ((w.drop 2).length : Int) then ([], 31)
      else if noZero ((w.drop 2).take (w.getD 1 0).toNat) = true then read f ((w.drop 2).drop (w.getD 1 0).toNat) n (o ++ List.replicate (w.getD 0 0).toNat 0 ++ (w.drop 2).take (w.getD 1 0).toNat)
      else ([], 26)
    else if w.length > 0 then ([], 32) else (o, 0)
def load (d : List Int) : List Int × Int :=
  if d.length < 24 ∨ d.length % 8 ≠ 0 then ([], 31)
  else if (By.words d).getD 0 0 ≠ magic then ([], 24)
  else if (By.words d).getD ((By.words d).length - 1) 0 ≠ sum ((By.words d).take ((By.words d).length - 1)) then ([], 25)
  else if (By.words d).getD 1 0 > 131072 ∨ (By.words d).getD 1 0 % 8 ≠ 0 then ([], 26)
  else read (((By.words d).getD 1 0).toNat + 1) (((By.words d).take ((By.words d).length - 1)).drop 2) ((By.words d).getD 1 0) []
end Go.Proofs.Ytmekhdclnhhhbaa.Im
end

section
namespace Go.Proofs.Ytmekhdclnhhhbaa.Im
def U (l : List Int) : Prop := ∀ x ∈ l, 0 ≤ x ∧ x ≤ 18446744073709551615
theorem U.drop {l : List Int} (h : U l) (k : Nat) : U (l.drop k) := fun x hx => h x (List.mem_of_mem_drop hx)
theorem U.take {l : List Int} (h : U l) (k : Nat) : U (l.take k) := fun x hx => h x (List.mem_of_mem_take hx)
theorem body_bd : ∀ (k : Nat) (l : List Int), l.length ≤ k → l.length ≤ 1000000 → U l → U (body l)
  | 0, l, h, _, _ => by
    obtain rfl : l = [] := List.eq_nil_of_length_eq_zero (by omega)
    intro x hx; rw [body_nil] at hx; cases hx
  | k + 1, l, h, hb, hU => by
    by_cases hl : l = []
    · subst hl; intro x hx; rw [body_nil] at hx; cases hx
    · have h1 := step_pos l hl
      have h2 := step_le l
      have h3 := zr_le l
      have h4 := nr_le (l.drop (zr l))
      rw [List.length_drop] at h4
      have ih := body_bd k (l.drop (step l)) (by rw [List.length_drop]; omega) (by rw [List.length_drop]; omega) (hU.drop _)
      rw [body_cons l hl]
      intro x hx
      rcases List.mem_cons.1 hx with rfl | hx
      · omega
      rcases List.mem_cons.1 hx with rfl | hx
      · omega
      rcases List.mem_append.1 hx with hx | hx
      · exact (hU.drop _).take _ x hx
      · exact ih x hx
theorem sum_bd (l : List Int) : 0 ≤ sum l ∧ sum l ≤ 4294967295 := Cr.more_bd 0 _ (by omega) (by omega) (By.bytes_bd _)
theorem head_bd {l : List Int} (hb : l.length ≤ 1000000) (hU : U l) : U (head l) := by
  intro x hx
  rcases List.mem_cons.1 hx with rfl | hx
  · decide
  rcases List.mem_cons.1 hx with rfl | hx
  · omega
  · exact body_bd _ l (Nat.le_refl _) hb hU x hx
theorem out_bd {l : List Int} (hb : l.length ≤ 1000000) (hU : U l) : U (out l) := by
  intro x hx
  rcases List.mem_append.1 hx with hx | hx
  · exact head_bd hb hU x hx
  · rw [List.mem_singleton.1 hx]; have := sum_bd (head l); omega
theorem out_len (l : List Int) : (out l).length = (body l).length + 3 := by simp [out, head]
theorem save_len (l : List Int) : (save l).length = 8 * ((body l).length + 3) := by unfold save; rw [By.bytes_len, out_len]
end Go.Proofs.Ytmekhdclnhhhbaa.Im
end

section
namespace Go.Proofs.Ytmekhdclnhhhbaa
open Go.RowKit
set_option linter.unusedSimpArgs false
set_option linter.unusedVariables false
theorem ints_u64 {xs : List Int} (h : Im.U xs) : Ints .u64 xs := fun z hz => wf_u64 (h z hz)
theorem ints_u8 {xs : List Int} (h : By.IsBytes xs) : Ints .u8 xs := fun z hz => wf_u8 (h z hz)
theorem cWords (A : Option Addr) (n c : Nat) (xs : List Int) (w : World) (hz : Sees (Value.int .u64) w [] A xs) (hl : xs.length = n) (hU : Im.U xs) (hn : n ≤ 1000000000) :
    Calls Try.prog 82 [.slice A n c].toArray w fun e w' => e = .returned (.int .u32 (Im.sum xs)) ∧ Only [] w w' :=
  (crcWords_any A n c xs _ w (hz.row hl) (ints_u64 hU) (by omega) (Nat.le_refl _)).mono fun _ _ h => ⟨h.1, Only.of_below h.2 _⟩
/-- a row of integers that the call made -/
def Gives (k : IntKind) (T : TypeId) (xs : List Int) (w : World) (e : Ending) (w' : World) : Prop :=
  ∃ A c, e = .returned (.slice A xs.length c) ∧ Heap w [] [ownN 1 (.slice A xs.length c) xs.length (xs.map (Value.int k)) T] w'
theorem cBytes (A : Option Addr) (n c : Nat) (xs : List Int) (w : World) (hz : Sees (Value.int .u64) w [] A xs) (hl : xs.length = n) (hU : Im.U xs) (hn : n ≤ 1000000000) :
    Calls Try.prog 86 [.slice A n c].toArray w (Gives .u8 5 (By.bytes xs) w) :=
  (bytes_any A n c xs _ w (hz.row hl) (ints_u64 hU) (by omega) (Nat.le_refl _)).mono fun _ _ ⟨v, he, ho, hb⟩ => by
    obtain ⟨A', c', rfl, H⟩ := own_heap ho hb
    have e : (By.bytes xs).length = 8 * n := by rw [By.bytes_len, hl]
    unfold Gives
    rw [e]
    exact ⟨A', c', he, H⟩
theorem cWordsOf (A : Option Addr) (n c : Nat) (xs : List Int) (w : World) (hz : Sees (Value.int .u8) w [] A xs) (hl : xs.length = n) (hU : By.IsBytes xs) (hn : n ≤ 1000000) :
    Calls Try.prog 81 [.slice A n c].toArray w (Gives .u64 22 (By.words xs) w) :=
  (words_any8 A n c xs _ w (hz.row hl) (ints_u8 hU) hn (Nat.le_refl _)).mono fun _ _ ⟨v, he, ho, hb⟩ => by
    obtain ⟨A', c', rfl, H⟩ := own_heap ho hb
    exact ⟨A', c', he, H⟩
end Go.Proofs.Ytmekhdclnhhhbaa
end

section
namespace Go.Proofs.Ytmekhdclnhhhbaa
open Go.RowKit
set_option linter.unusedSimpArgs false
set_option linter.unusedVariables false
/-- a run in memory -/
structure RunS where
  z : Nat
  l : List Int
  A : Option Addr
  c : Nat
def RunS.C (r : RunS) : List C1 := [.i .i64 r.z, .s r.A r.l.length r.c]
def RunS.E (r : RunS) : Ent := ownN 1 (.slice r.A r.l.length r.c) r.l.length (r.l.map (Value.int .u64)) 22
def RunS.P (r : RunS) : Nat × List Int := (r.z, r.l)
theorem own0 {w0 W : World} {F : List Nat} {L : List Ent} (H : Heap w0 F L W) (T : TypeId) : Heap w0 F (ownN 1 (.slice none 0 0) 0 (([] : List Int).map (Value.int .u64)) T :: L) W := H.own_nil 1 T
theorem own02 {w0 W : World} {F : List Nat} {L : List Ent} (H : Heap w0 F L W) (T : TypeId) : Heap w0 F (ownN 2 (.slice none 0 0) 0 (([] : List C1).map C1.v) T :: L) W := H.own_nil 2 T
theorem take_snoc {α : Type} {l : List α} {k : Nat} {x : α} (h : l[k]? = some x) : l.take k ++ [x] = l.take (k + 1) := by rw [List.take_add_one, h]; rfl
/-- the run that begins at i -/
theorem run_at (ws : List Int) (i n : Nat) (hl : ws.length = n) (hlt : i < n) (w : World) (b o : Nat) (hr : Reads (Value.int .u64) w b o ws) :
    ∃ (Z : Nat) (R : List Int), R = ws.drop (i + Z) ∧ i + Z ≤ n ∧ i + Z + Im.nr R ≤ n ∧ 0 < Z + Im.nr R ∧ Im.rn (ws.drop i) = (Z, R.take (Im.nr R)) :: Im.rn (ws.drop (i + Z + Im.nr R)) ∧ (R.take (Im.nr R)).length = Im.nr R ∧
      (∀ k, k < Z → w.cell? ⟨b, o + (i + k), none⟩ = some (.int .u64 0)) ∧ (i + Z < n → ∃ z, w.cell? ⟨b, o + (i + Z), none⟩ = some (.int .u64 z) ∧ z ≠ 0) ∧
      (∀ k, k < Im.nr R → ∃ z, R[k]? = some z ∧ w.cell? ⟨b, o + (i + Z + k), none⟩ = some (.int .u64 z) ∧ z ≠ 0) ∧ (i + Z + Im.nr R < n → w.cell? ⟨b, o + (i + Z + Im.nr R), none⟩ = some (.int .u64 0)) := by
  have hne : ws.drop i ≠ [] := by
    intro h
    have := congrArg List.length h
    rw [List.length_drop] at this
    simp at this; omega
  have hs := Im.rn_cons _ hne
  have hz1 := Im.zr_le (ws.drop i)
  have hz2 := Im.nr_le ((ws.drop i).drop (Im.zr (ws.drop i)))
  have hsp := Im.step_pos _ hne
  have hst : Im.step (ws.drop i) = Im.zr (ws.drop i) + Im.nr ((ws.drop i).drop (Im.zr (ws.drop i))) := rfl
  rw [List.length_drop] at hz1
  rw [List.length_drop, List.length_drop] at hz2
  refine ⟨Im.zr (ws.drop i), (ws.drop i).drop (Im.zr (ws.drop i)), by rw [List.drop_drop], by omega, by omega, by omega, ?_, by rw [List.length_take, List.length_drop, List.length_drop]; omega, fun k hk => hr (i + k) 0 ?_, fun hk => ?_, fun k hk => ?_, fun hk => ?_⟩
  · rw [hs, hst]
    generalize Im.nr (List.drop (Im.zr (List.drop i ws)) (List.drop i ws)) = q
    generalize Im.zr (List.drop i ws) = y
    rw [show List.drop (y + q) (List.drop i ws) = List.drop (i + y + q) ws by rw [List.drop_drop, Nat.add_assoc]]
  · have := Im.zr_get _ k hk
    rwa [List.getElem?_drop] at this
  · obtain ⟨z, h1, h2⟩ := Im.zr_end (ws.drop i) (by rw [List.length_drop]; omega)
    rw [List.getElem?_drop] at h1
    exact ⟨z, hr _ z h1, h2⟩
  · obtain ⟨z, h1, h2⟩ := Im.nr_get _ k hk
    have h3 := h1
    rw [List.getElem?_drop, List.getElem?_drop] at h3
    exact ⟨z, h1, by have := hr _ z h3; rwa [← Nat.add_assoc i] at this, h2⟩
  · have h1 := Im.nr_end ((ws.drop i).drop (Im.zr (ws.drop i))) (by rw [List.length_drop, List.length_drop]; omega)
    rw [List.getElem?_drop, List.getElem?_drop] at h1
    have := hr _ 0 h1
    rwa [← Nat.add_assoc i] at this
theorem iRuns (A : Option Addr) (n c : Nat) (ws : List Int) (w : World) (hz : Sees (Value.int .u64) w [] A ws) (hl : ws.length = n) (hn : n ≤ 1000000) :
    Calls Try.prog 85 [.slice A n c].toArray w fun e w' => ∃ (A' : Option Addr) (c' : Nat) (rs : List RunS), e = .returned (.slice A' rs.length c') ∧ rs.map RunS.P = Im.rn ws ∧ Heap w [] [ownN 2 (.slice A' rs.length c') rs.length ((rs.flatMap RunS.C).map C1.v) 131, grp (rs.map RunS.E)] w' := by
  have H0 := Heap.nil w
  have H1 := H0.grp_nil
  have H := own02 H1 131
  clear H0 H1
  refine k_in (N := 54) Try.func85 rfl rfl rfl ?_
  refine k_seq ?_
  refine k_rg ?_
  refine s_run rfl rfl (r_as (v := .slice _ _ _) rfl) ?_
  refine k_nil ?_
  refine c_norm ?_
  refine k_seq ?_
  refine k_rg ?_
  refine s_run rfl rfl (r_as (v := .slice _ _ _) rfl) ?_
  refine k_nil ?_
  refine c_norm ?_
  refine k_seq ?_
  refine k_seq ?_
  refine k_rg ?_
  refine s_run rfl rfl (r_as (v := .int _ _) rfl) ?_
  refine k_nil ?_
  refine c_norm ?_
  refine k_b ?_
  refine k_loop (fun z f W => ∃ (i : Nat) (A' : Option Addr) (c' : Nat) (rs : List RunS), i ≤ n ∧ z = n - i ∧ rs.length ≤ i ∧ rs.map RunS.P ++ Im.rn (ws.drop i) = Im.rn ws ∧ f 0 = .slice A n c ∧ f 3 = .slice A' rs.length c' ∧ f 4 = .int .i64 i ∧ Heap w [] [ownN 2 (.slice A' rs.length c') rs.length ((rs.flatMap RunS.C).map C1.v) 131, grp (rs.map RunS.E)] W) n ⟨0, none, 0, [], by omega, rfl, Nat.le_refl _, by simp, rfl, rfl, rfl, H⟩ ?_
  clear H
  rintro z f W ⟨i, A', c', rs, hi, rfl, hrl, hrn, f0, f3, f4, H⟩
  obtain ⟨f, rfl⟩ := live3 f0 f3 f4
  clear f0 f3 f4
  by_cases hlt : i < n
  · obtain ⟨b, o, rfl, _, hr⟩ := hz (by omega)
    have H2 := own0 H 22
    clear H
    have H := H2
    clear H2
    obtain ⟨Z, R, _, hb1, hb2, hb3, hs, hLl, hg1, hg2, hg3, hg4⟩ := run_at ws i n hl hlt w b o hr
    refine k_seq ?_
    refine k_seq ?_
    refine k_rg ?_
    refine s_run rfl rfl (r_mv (v := .int _ _) rfl) ?_
    refine s_run rfl rfl (r_mv (v := .slice _ _ _) rfl) ?_
    refine s_run rfl rfl (r_len rfl Try.underlying25) ?_
    refine s_run rfl rfl (r_lssT rfl rfl (by omega)) ?_
    refine k_nil ?_
    refine c_norm ?_
    refine k_t rfl ?_
    refine k_skip ?_
    refine c_norm ?_
    refine k_b ?_
    refine k_seq ?_
    refine k_rg ?_
    refine s_al H rfl inf131 ?_
    intro p5 _ H'; clear H; have H := H'; clear H'
    refine k_nil ?_
    refine c_norm ?_
    refine k_seq ?_
    refine k_cut (fun f W => f 0 = .slice (some ⟨b, o, none⟩) n c ∧ f 3 = .slice A' rs.length c' ∧ f 4 = .int .i64 ((i + Z : Nat) : Int) ∧ f 5 = ptr p5 ∧ Heap w [] [blk p5 [.int .i64 Z, .slice none 0 0] 131, ownN 1 (.slice none 0 0) 0 (([] : List Int).map (Value.int .u64)) 22, ownN 2 (.slice A' rs.length c') rs.length ((rs.flatMap RunS.C).map C1.v) 131, grp (rs.map RunS.E)] W) ?_ ?_
    · refine k_b ?_
      refine k_loop (fun z f W => ∃ k : Nat, k ≤ Z ∧ z = n - k ∧ f 0 = .slice (some ⟨b, o, none⟩) n c ∧ f 3 = .slice A' rs.length c' ∧ f 4 = .int .i64 ((i + k : Nat) : Int) ∧ f 5 = ptr p5 ∧ Heap w [] [blk p5 [.int .i64 k, .slice none 0 0] 131, ownN 1 (.slice none 0 0) 0 (([] : List Int).map (Value.int .u64)) 22, ownN 2 (.slice A' rs.length c') rs.length ((rs.flatMap RunS.C).map C1.v) 131, grp (rs.map RunS.E)] W) n ⟨0, by omega, rfl, rfl, rfl, rfl, rfl, H⟩ ?_
      clear H
      rintro z f W ⟨k, hk, rfl, f0, f3, f4, f5, H⟩
      obtain ⟨f, rfl⟩ := live4 f0 f3 f4 f5
      clear f0 f3 f4 f5
      by_cases hlt2 : k < Z
      · have hc := hg1 k hlt2
        refine k_seq ?_
        refine k_seq ?_
        refine k_rg ?_
        refine s_run rfl rfl (r_mv (v := .int _ _) rfl) ?_
        refine s_run rfl rfl (r_mv (v := .slice _ _ _) rfl) ?_
        refine s_run rfl rfl (r_len rfl Try.underlying25) ?_
        refine s_run rfl rfl (r_lssT rfl rfl (by omega)) ?_
        refine s_run rfl rfl (r_mv (v := .bool _) rfl) ?_
        refine s_run rfl (g_on 14 (by kernel_rfl) rfl) (r_mv (v := .slice _ _ _) rfl) ?_
        refine s_run rfl (g_on 14 (by kernel_rfl) rfl) (r_mv (v := .int _ _) rfl) ?_
        refine s_run rfl (g_on 14 (by kernel_rfl) rfl) (r_ix1o (i := (i + k)) rfl rfl (by omega) (by omega) Try.underlying25 sz22) ?_
        refine s_run rfl (g_on 14 (by kernel_rfl) rfl) (r_lr H (i := o + (i + k)) rfl hc (by simp) ag22) ?_
        refine s_run rfl (g_on 14 (by kernel_rfl) rfl) (r_eqlT rfl rfl (by omega)) ?_
        refine s_run rfl rfl (r_pkT (v := .bool _) rfl rfl) ?_
        refine k_nil ?_
        refine c_norm ?_
        refine k_t rfl ?_
        refine k_skip ?_
        refine c_norm ?_
        refine k_b ?_
        refine k_rg ?_
        refine s_run rfl rfl (r_fa0 rfl fo131_0) ?_
        refine s_run rfl rfl (r_lo H 0 rfl rfl rfl ag3) ?_
        refine s_run rfl rfl (r_add rfl rfl (wI (by omega))) ?_
        refine s_run rfl rfl (r_mv (v := .int _ _) rfl) ?_
        refine s_run rfl rfl (r_add rfl rfl (wI (by omega))) ?_
        refine s_run rfl rfl (r_fa0 rfl fo131_0) ?_
        refine s_st (u := .int _ _) H 0 rfl rfl rfl rfl rfl rfl sz3 ?_
        intro _ H'; simp only [List.set_cons_zero, List.set_cons_succ, List.take_succ_cons, List.take_zero, List.drop_succ_cons, List.drop_zero, List.cons_append, List.nil_append, List.append_nil, List.length_cons, List.length_nil, Nat.reduceAdd] at H'; clear H; have H := H'; clear H'
        refine s_run rfl rfl (r_as (v := .int _ _) rfl) ?_
        refine k_nil ?_
        refine b_norm ?_
        refine c_round ?_
        refine ⟨_, _, ?_, rfl, k + 1, by omega, rfl, rfl, rfl, ?_, rfl, H⟩
        · omega
        · exact congrArg (Value.int .i64) (by omega)
      · obtain rfl : k = Z := by omega
        by_cases hend : i + k < n
        · obtain ⟨z, hc, hz0⟩ := hg2 hend
          refine k_seq ?_
          refine k_seq ?_
          refine k_rg ?_
          refine s_run rfl rfl (r_mv (v := .int _ _) rfl) ?_
          refine s_run rfl rfl (r_mv (v := .slice _ _ _) rfl) ?_
          refine s_run rfl rfl (r_len rfl Try.underlying25) ?_
          refine s_run rfl rfl (r_lssT rfl rfl (by omega)) ?_
          refine s_run rfl rfl (r_mv (v := .bool _) rfl) ?_
          refine s_run rfl (g_on 14 (by kernel_rfl) rfl) (r_mv (v := .slice _ _ _) rfl) ?_
          refine s_run rfl (g_on 14 (by kernel_rfl) rfl) (r_mv (v := .int _ _) rfl) ?_
          refine s_run rfl (g_on 14 (by kernel_rfl) rfl) (r_ix1o (i := (i + k)) rfl rfl (by omega) (by omega) Try.underlying25 sz22) ?_
          refine s_run rfl (g_on 14 (by kernel_rfl) rfl) (r_lr H (i := o + (i + k)) rfl hc (by simp) ag22) ?_
          refine s_run rfl (g_on 14 (by kernel_rfl) rfl) (r_eqlF rfl rfl (by omega)) ?_
          refine s_run rfl rfl (r_pkT (v := .bool _) rfl rfl) ?_
          refine k_nil ?_
          refine c_norm ?_
          refine k_f rfl ?_
          refine k_exit ?_
          refine c_exit ?_
          refine c_exit ?_
          refine b_hit ?_
          refine k_met ?_
          exact ⟨rfl, rfl, rfl, rfl, H⟩
        · refine k_seq ?_
          refine k_seq ?_
          refine k_rg ?_
          refine s_run rfl rfl (r_mv (v := .int _ _) rfl) ?_
          refine s_run rfl rfl (r_mv (v := .slice _ _ _) rfl) ?_
          refine s_run rfl rfl (r_len rfl Try.underlying25) ?_
          refine s_run rfl rfl (r_lssF rfl rfl (by omega)) ?_
          refine s_run rfl rfl (r_mv (v := .bool _) rfl) ?_
          refine s_off rfl (g_off 14 (by kernel_rfl) rfl rfl) ?_
          refine s_off rfl (g_off 14 (by kernel_rfl) rfl rfl) ?_
          refine s_off rfl (g_off 14 (by kernel_rfl) rfl rfl) ?_
          refine s_off rfl (g_off 14 (by kernel_rfl) rfl rfl) ?_
          refine s_off rfl (g_off 14 (by kernel_rfl) rfl rfl) ?_
          refine s_run rfl rfl (r_pkF (v := .bool _) rfl rfl) ?_
          refine k_nil ?_
          refine c_norm ?_
          refine k_f rfl ?_
          refine k_exit ?_
          refine c_exit ?_
          refine c_exit ?_
          refine b_hit ?_
          refine k_met ?_
          exact ⟨rfl, rfl, rfl, rfl, H⟩
    · clear H
      rintro f W ⟨f0, f3, f4, f5, H⟩
      obtain ⟨f, rfl⟩ := live4 f0 f3 f4 f5
      clear f0 f3 f4 f5
      refine c_norm ?_
      refine k_seq ?_
      refine k_cut (fun f W => ∃ A2 c2, f 0 = .slice (some ⟨b, o, none⟩) n c ∧ f 3 = .slice A' rs.length c' ∧ f 4 = .int .i64 ((i + Z + Im.nr R : Nat) : Int) ∧ f 5 = ptr p5 ∧ Heap w [] [blk p5 [.int .i64 Z, .slice A2 (Im.nr R) c2] 131, ownN 1 (.slice A2 (Im.nr R) c2) (Im.nr R) ((R.take (Im.nr R)).map (Value.int .u64)) 22, ownN 2 (.slice A' rs.length c') rs.length ((rs.flatMap RunS.C).map C1.v) 131, grp (rs.map RunS.E)] W) ?_ ?_
      · refine k_b ?_
        refine k_loop (fun z f W => ∃ (k : Nat) (A2 : Option Addr) (c2 : Nat), k ≤ Im.nr R ∧ z = n - k ∧ f 0 = .slice (some ⟨b, o, none⟩) n c ∧ f 3 = .slice A' rs.length c' ∧ f 4 = .int .i64 ((i + Z + k : Nat) : Int) ∧ f 5 = ptr p5 ∧ Heap w [] [blk p5 [.int .i64 Z, .slice A2 k c2] 131, ownN 1 (.slice A2 k c2) k ((R.take k).map (Value.int .u64)) 22, ownN 2 (.slice A' rs.length c') rs.length ((rs.flatMap RunS.C).map C1.v) 131, grp (rs.map RunS.E)] W) n ⟨0, none, 0, by omega, rfl, rfl, rfl, rfl, rfl, H⟩ ?_
        clear H
        rintro z f W ⟨k, A2, c2, hk, rfl, f0, f3, f4, f5, H⟩
        obtain ⟨f, rfl⟩ := live4 f0 f3 f4 f5
        clear f0 f3 f4 f5
        by_cases hlt2 : k < Im.nr R
        · obtain ⟨z, hzR, hc, hz0⟩ := hg3 k hlt2
          refine k_seq ?_
          refine k_seq ?_
          refine k_rg ?_
          refine s_run rfl rfl (r_mv (v := .int _ _) rfl) ?_
          refine s_run rfl rfl (r_mv (v := .slice _ _ _) rfl) ?_
          refine s_run rfl rfl (r_len rfl Try.underlying25) ?_
          refine s_run rfl rfl (r_lssT rfl rfl (by omega)) ?_
          refine s_run rfl rfl (r_mv (v := .bool _) rfl) ?_
          refine s_run rfl (g_on 31 (by kernel_rfl) rfl) (r_mv (v := .slice _ _ _) rfl) ?_
          refine s_run rfl (g_on 31 (by kernel_rfl) rfl) (r_mv (v := .int _ _) rfl) ?_
          refine s_run rfl (g_on 31 (by kernel_rfl) rfl) (r_ix1o rfl rfl rfl (by omega) Try.underlying25 sz22) ?_
          refine s_run rfl (g_on 31 (by kernel_rfl) rfl) (r_lr H (i := o + (i + Z + k)) rfl hc (by simp) ag22) ?_
          refine s_run rfl (g_on 31 (by kernel_rfl) rfl) (r_neqT rfl rfl (by omega)) ?_
          refine s_run rfl rfl (r_pkT (v := .bool _) rfl rfl) ?_
          refine k_nil ?_
          refine c_norm ?_
          refine k_t rfl ?_
          refine k_skip ?_
          refine c_norm ?_
          refine k_b ?_
          refine k_cut (fun f W => ∃ A3 c3, f 0 = .slice (some ⟨b, o, none⟩) n c ∧ f 3 = .slice A' rs.length c' ∧ f 4 = .int .i64 ((i + Z + k : Nat) + 1 : Int) ∧ f 5 = ptr p5 ∧ Heap w [] [blk p5 [.int .i64 Z, .slice A3 (k + 1) c3] 131, ownN 1 (.slice A3 (k + 1) c3) (k + 1) ((R.take k ++ [z]).map (Value.int .u64)) 22, ownN 2 (.slice A' rs.length c') rs.length ((rs.flatMap RunS.C).map C1.v) 131, grp (rs.map RunS.E)] W) ?_ ?_
          · refine k_trF mixed ?_; have H' := H.drew; clear H; have H := H'; clear H'
            refine t_take 0 rfl (by kernel_rfl) (by kernel_rfl) (by kernel_rfl) rfl (fun _ _ _ _ h => nomatch h.1) rfl (fun _ hS => r_fa0 rfl fo131_1) trivial ?_
            refine t_take 2 rfl (by kernel_rfl) (by kernel_rfl) (by kernel_rfl) rfl (fun _ _ _ _ h => nomatch h.1) rfl (fun _ hS => r_mv (v := .slice _ _ _) rfl) trivial ?_
            refine t_take 3 rfl (by kernel_rfl) (by kernel_rfl) (by kernel_rfl) rfl (fun _ _ _ _ h => nomatch h.1) rfl (fun _ hS => r_mv (v := .int _ _) rfl) trivial ?_
            refine t_take 4 rfl (by kernel_rfl) (by kernel_rfl) (by kernel_rfl) rfl (fun _ _ _ _ h => nomatch h.1) rfl (fun _ hS => r_ix1o rfl rfl rfl (by omega) Try.underlying25 sz22) trivial ?_
            refine t_take 8 rfl (by kernel_rfl) (by kernel_rfl) (by kernel_rfl) rfl (fun _ _ _ _ h => nomatch h.1) rfl (fun _ hS => r_mv (v := .int _ _) rfl) trivial ?_
            refine t_take 9 rfl (by kernel_rfl) (by kernel_rfl) (by kernel_rfl) rfl (fun _ _ _ _ h => nomatch h.1) rfl (fun _ hS => r_add rfl rfl (wI (by omega))) trivial ?_
            refine t_up2 1 5 (by kernel_rfl) ?_ ?_
            · refine up_mk rfl ?_
              refine s_run rfl rfl (r_lo H 0 rfl rfl rfl ag25) ?_
              refine k_nil ?_
              refine t_on trivial ?_
              refine t_up1 5 (by kernel_rfl) ?_
              refine up_mk rfl ?_
              refine s_run rfl rfl (r_lr H (i := o + (i + Z + k)) rfl hc (by simp) ag22) ?_
              refine k_nil ?_
              refine t_on trivial ?_
              refine t_up1 6 (by kernel_rfl) ?_
              refine up_mk rfl ?_
              refine s_bsO (enc := (Value.int .u64)) (zs := [z]) H rfl rfl rfl (by omega) (by kernel_rfl) Try.underlying25 inf22 ?_
              intro q6 _ H'; clear H; have H := H'; clear H'
              refine k_nil ?_
              refine t_on trivial ?_
              refine t_up1 7 (by kernel_rfl) ?_
              refine up_mk rfl ?_
              refine s_apW (enc := (Value.int .u64)) H 2 rfl rfl rfl rfl (H.own_sees 0 rfl) (rfl) (fun _ => rfl) (by omega) Try.underlying25 inf22 rfl ?_
              intro _ _ _ H'; simp only [List.set_cons_zero, List.set_cons_succ, List.take_succ_cons, List.take_zero, List.drop_succ_cons, List.drop_zero, List.cons_append, List.nil_append, List.append_nil, List.length_cons, List.length_nil, Nat.reduceAdd] at H'; clear H; have H := H'; clear H'
              refine k_nil ?_
              refine t_on trivial ?_
              refine t_take 10 rfl (by kernel_rfl) (by kernel_rfl) (by kernel_rfl) rfl (fun _ _ _ _ h => nomatch h.1) rfl (fun _ hS => r_fa0 rfl fo131_1) trivial ?_
              refine t_up1 11 (by kernel_rfl) ?_
              refine up_mk rfl ?_
              refine s_st (u := .slice _ _ _) H 1 rfl rfl rfl rfl rfl rfl sz25 ?_
              intro _ H'; simp only [List.set_cons_zero, List.set_cons_succ, List.take_succ_cons, List.take_zero, List.drop_succ_cons, List.drop_zero, List.cons_append, List.nil_append, List.append_nil, List.length_cons, List.length_nil, Nat.reduceAdd] at H'; clear H; have H := H'; clear H'
              refine k_nil ?_
              refine t_on trivial ?_
              refine t_take 12 rfl (by kernel_rfl) (by kernel_rfl) (by kernel_rfl) rfl (fun _ _ _ _ h => nomatch h.1) rfl (fun _ hS => r_as (v := .int _ _) rfl) trivial ?_
              refine t_done (by kernel_rfl) ?_
              refine k_met ?_
              exact ⟨_, _, rfl, rfl, rfl, rfl, H.drop⟩
            · refine up_mk rfl ?_
              refine s_run rfl rfl (r_lr H (i := o + (i + Z + k)) rfl hc (by simp) ag22) ?_
              refine k_nil ?_
              refine t_on trivial ?_
              refine t_up2 1 6 (by kernel_rfl) ?_ ?_
              · refine up_mk rfl ?_
                refine s_run rfl rfl (r_lo H 0 rfl rfl rfl ag25) ?_
                refine k_nil ?_
                refine t_on trivial ?_
                refine t_up1 6 (by kernel_rfl) ?_
                refine up_mk rfl ?_
                refine s_bsO (enc := (Value.int .u64)) (zs := [z]) H rfl rfl rfl (by omega) (by kernel_rfl) Try.underlying25 inf22 ?_
                intro q6 _ H'; clear H; have H := H'; clear H'
                refine k_nil ?_
                refine t_on trivial ?_
                refine t_up1 7 (by kernel_rfl) ?_
                refine up_mk rfl ?_
                refine s_apW (enc := (Value.int .u64)) H 2 rfl rfl rfl rfl (H.own_sees 0 rfl) (rfl) (fun _ => rfl) (by omega) Try.underlying25 inf22 rfl ?_
                intro _ _ _ H'; simp only [List.set_cons_zero, List.set_cons_succ, List.take_succ_cons, List.take_zero, List.drop_succ_cons, List.drop_zero, List.cons_append, List.nil_append, List.append_nil, List.length_cons, List.length_nil, Nat.reduceAdd] at H'; clear H; have H := H'; clear H'
                refine k_nil ?_
                refine t_on trivial ?_
                refine t_take 10 rfl (by kernel_rfl) (by kernel_rfl) (by kernel_rfl) rfl (fun _ _ _ _ h => nomatch h.1) rfl (fun _ hS => r_fa0 rfl fo131_1) trivial ?_
                refine t_up1 11 (by kernel_rfl) ?_
                refine up_mk rfl ?_
                refine s_st (u := .slice _ _ _) H 1 rfl rfl rfl rfl rfl rfl sz25 ?_
                intro _ H'; simp only [List.set_cons_zero, List.set_cons_succ, List.take_succ_cons, List.take_zero, List.drop_succ_cons, List.drop_zero, List.cons_append, List.nil_append, List.append_nil, List.length_cons, List.length_nil, Nat.reduceAdd] at H'; clear H; have H := H'; clear H'
                refine k_nil ?_
                refine t_on trivial ?_
                refine t_take 12 rfl (by kernel_rfl) (by kernel_rfl) (by kernel_rfl) rfl (fun _ _ _ _ h => nomatch h.1) rfl (fun _ hS => r_as (v := .int _ _) rfl) trivial ?_
                refine t_done (by kernel_rfl) ?_
                refine k_met ?_
                exact ⟨_, _, rfl, rfl, rfl, rfl, H.drop⟩
              · refine up_mk rfl ?_
                refine s_bsO (enc := (Value.int .u64)) (zs := [z]) H rfl rfl rfl (by omega) (by kernel_rfl) Try.underlying25 inf22 ?_
                intro q6 _ H'; clear H; have H := H'; clear H'
                refine k_nil ?_
                refine t_on trivial ?_
                refine t_up1 1 (by kernel_rfl) ?_
                refine up_mk rfl ?_
                refine s_run rfl rfl (r_lo H 1 rfl rfl rfl ag25) ?_
                refine k_nil ?_
                refine t_on trivial ?_
                refine t_up1 7 (by kernel_rfl) ?_
                refine up_mk rfl ?_
                refine s_apW (enc := (Value.int .u64)) H 2 rfl rfl rfl rfl (H.own_sees 0 rfl) (rfl) (fun _ => rfl) (by omega) Try.underlying25 inf22 rfl ?_
                intro _ _ _ H'; simp only [List.set_cons_zero, List.set_cons_succ, List.take_succ_cons, List.take_zero, List.drop_succ_cons, List.drop_zero, List.cons_append, List.nil_append, List.append_nil, List.length_cons, List.length_nil, Nat.reduceAdd] at H'; clear H; have H := H'; clear H'
                refine k_nil ?_
                refine t_on trivial ?_
                refine t_take 10 rfl (by kernel_rfl) (by kernel_rfl) (by kernel_rfl) rfl (fun _ _ _ _ h => nomatch h.1) rfl (fun _ hS => r_fa0 rfl fo131_1) trivial ?_
                refine t_up1 11 (by kernel_rfl) ?_
                refine up_mk rfl ?_
                refine s_st (u := .slice _ _ _) H 1 rfl rfl rfl rfl rfl rfl sz25 ?_
                intro _ H'; simp only [List.set_cons_zero, List.set_cons_succ, List.take_succ_cons, List.take_zero, List.drop_succ_cons, List.drop_zero, List.cons_append, List.nil_append, List.append_nil, List.length_cons, List.length_nil, Nat.reduceAdd] at H'; clear H; have H := H'; clear H'
                refine k_nil ?_
                refine t_on trivial ?_
                refine t_take 12 rfl (by kernel_rfl) (by kernel_rfl) (by kernel_rfl) rfl (fun _ _ _ _ h => nomatch h.1) rfl (fun _ hS => r_as (v := .int _ _) rfl) trivial ?_
                refine t_done (by kernel_rfl) ?_
                refine k_met ?_
                exact ⟨_, _, rfl, rfl, rfl, rfl, H.drop⟩
          clear H
          rintro f W ⟨A3, c3, f0, f3, f4, f5, H⟩
          obtain ⟨f, rfl⟩ := live4 f0 f3 f4 f5
          clear f0 f3 f4 f5
          refine b_norm ?_
          refine c_round ?_
          rw [take_snoc hzR] at H
          refine ⟨_, _, ?_, rfl, k + 1, _, _, by omega, rfl, rfl, rfl, ?_, rfl, H⟩
          · omega
          · exact congrArg (Value.int .i64) (by omega)
        · obtain rfl : k = Im.nr R := by omega
          by_cases hend : i + Z + Im.nr R < n
          · have hc := hg4 hend
            refine k_seq ?_
            refine k_seq ?_
            refine k_rg ?_
            refine s_run rfl rfl (r_mv (v := .int _ _) rfl) ?_
            refine s_run rfl rfl (r_mv (v := .slice _ _ _) rfl) ?_
            refine s_run rfl rfl (r_len rfl Try.underlying25) ?_
            refine s_run rfl rfl (r_lssT rfl rfl (by omega)) ?_
            refine s_run rfl rfl (r_mv (v := .bool _) rfl) ?_
            refine s_run rfl (g_on 31 (by kernel_rfl) rfl) (r_mv (v := .slice _ _ _) rfl) ?_
            refine s_run rfl (g_on 31 (by kernel_rfl) rfl) (r_mv (v := .int _ _) rfl) ?_
            refine s_run rfl (g_on 31 (by kernel_rfl) rfl) (r_ix1o (i := (i + Z + Im.nr R)) rfl rfl (by omega) (by omega) Try.underlying25 sz22) ?_
            refine s_run rfl (g_on 31 (by kernel_rfl) rfl) (r_lr H (i := o + (i + Z + Im.nr R)) rfl hc (by simp) ag22) ?_
            refine s_run rfl (g_on 31 (by kernel_rfl) rfl) (r_neqF rfl rfl (by omega)) ?_
            refine s_run rfl rfl (r_pkT (v := .bool _) rfl rfl) ?_
            refine k_nil ?_
            refine c_norm ?_
            refine k_f rfl ?_
            refine k_exit ?_
            refine c_exit ?_
            refine c_exit ?_
            refine b_hit ?_
            refine k_met ?_
            exact ⟨A2, c2, rfl, rfl, rfl, rfl, H⟩
          · refine k_seq ?_
            refine k_seq ?_
            refine k_rg ?_
            refine s_run rfl rfl (r_mv (v := .int _ _) rfl) ?_
            refine s_run rfl rfl (r_mv (v := .slice _ _ _) rfl) ?_
            refine s_run rfl rfl (r_len rfl Try.underlying25) ?_
            refine s_run rfl rfl (r_lssF rfl rfl (by omega)) ?_
            refine s_run rfl rfl (r_mv (v := .bool _) rfl) ?_
            refine s_off rfl (g_off 31 (by kernel_rfl) rfl rfl) ?_
            refine s_off rfl (g_off 31 (by kernel_rfl) rfl rfl) ?_
            refine s_off rfl (g_off 31 (by kernel_rfl) rfl rfl) ?_
            refine s_off rfl (g_off 31 (by kernel_rfl) rfl rfl) ?_
            refine s_off rfl (g_off 31 (by kernel_rfl) rfl rfl) ?_
            refine s_run rfl rfl (r_pkF (v := .bool _) rfl rfl) ?_
            refine k_nil ?_
            refine c_norm ?_
            refine k_f rfl ?_
            refine k_exit ?_
            refine c_exit ?_
            refine c_exit ?_
            refine b_hit ?_
            refine k_met ?_
            exact ⟨A2, c2, rfl, rfl, rfl, rfl, H⟩
      · clear H
        rintro f W ⟨A2, c2, f0, f3, f4, f5, H⟩
        obtain ⟨f, rfl⟩ := live4 f0 f3 f4 f5
        clear f0 f3 f4 f5
        refine c_norm ?_
        refine k_rg ?_
        refine s_run rfl rfl (r_mv (v := .slice _ _ _) rfl) ?_
        refine s_run rfl rfl (r_la H 0 rfl rfl rfl ag131 sz131) ?_
        refine s_appN (enc := C1.v) (zs := [C1.i .i64 Z, C1.s A2 (Im.nr R) c2]) H 2 rfl rfl rfl rfl C1.one (by omega) (by kernel_rfl) rfl rfl rfl (by omega) Try.underlying128 inf131 rfl ?_
        intro _ bo co _ H'; simp only [List.set_cons_zero, List.set_cons_succ, List.take_succ_cons, List.take_zero, List.drop_succ_cons, List.drop_zero, List.cons_append, List.nil_append, List.append_nil, List.length_cons, List.length_nil, Nat.reduceAdd] at H'; clear H; have H := H'; clear H'
        refine s_run rfl rfl (r_as (v := .slice _ _ _) rfl) ?_
        refine k_nil ?_
        refine b_norm ?_
        refine c_round ?_
        have h2 : Heap w [] [grp _, _, _] _ := H.drop.pick 2 rfl
        have h3 : Heap w [] [_, grp _, _] _ := h2.pick 1 rfl
        have h4 : Heap w [] [_, grp _] _ := h3.grp_snoc.pick 1 rfl
        refine ⟨_, _, ?_, rfl, i + Z + Im.nr R, some ⟨bo, 0, none⟩, co, rs ++ [⟨Z, R.take (Im.nr R), A2, c2⟩], by omega, rfl, ?_, ?_, rfl, ?_, ?_, ?_⟩
        · omega
        · simp; omega
        · rw [List.map_append, List.append_assoc, ← hrn, hs]; rfl
        · rw [List.length_append]; rfl
        · exact congrArg (Value.int .i64) (by omega)
        · have e1 : (rs ++ [(⟨Z, R.take (Im.nr R), A2, c2⟩ : RunS)]).flatMap RunS.C = rs.flatMap RunS.C ++ [C1.i .i64 Z, C1.s A2 (Im.nr R) c2] := by simp [RunS.C, hLl]
          have e2 : (rs ++ [(⟨Z, R.take (Im.nr R), A2, c2⟩ : RunS)]).map RunS.E = rs.map RunS.E ++ [ownN 1 (.slice A2 (Im.nr R) c2) (Im.nr R) ((R.take (Im.nr R)).map (Value.int .u64)) 22] := by simp only [List.map_append, List.map_cons, List.map_nil, RunS.E, hLl]
          rw [e1, e2, List.length_append]
          exact h4
  · obtain rfl : i = n := by omega
    rw [List.drop_eq_nil_of_le (by omega), Im.rn_nil, List.append_nil] at hrn
    refine k_seq ?_
    refine k_seq ?_
    refine k_rg ?_
    refine s_run rfl rfl (r_mv (v := .int _ _) rfl) ?_
    refine s_run rfl rfl (r_mv (v := .slice _ _ _) rfl) ?_
    refine s_run rfl rfl (r_len rfl Try.underlying25) ?_
    refine s_run rfl rfl (r_lssF rfl rfl (by omega)) ?_
    refine k_nil ?_
    refine c_norm ?_
    refine k_f rfl ?_
    refine k_exit ?_
    refine c_exit ?_
    refine c_exit ?_
    refine b_hit ?_
    refine c_norm ?_
    refine k_seq ?_
    refine k_rg ?_
    refine s_run rfl rfl (r_mv (v := .slice _ _ _) rfl) ?_
    refine s_run rfl rfl (r_as (v := .slice _ _ _) rfl) ?_
    refine k_nil ?_
    refine c_norm ?_
    refine k_ret ?_
    refine fin1r (v := .slice _ _ _) rfl rfl ?_
    exact ⟨A', c', rs, rfl, hrn, H⟩
end Go.Proofs.Ytmekhdclnhhhbaa
end

section
namespace Go.Proofs.Ytmekhdclnhhhbaa
open Go.RowKit
set_option linter.unusedSimpArgs false
set_option linter.unusedVariables false
theorem flat_at : ∀ (rs : List RunS) (j : Nat) (r : RunS), rs[j]? = some r → ((rs.flatMap RunS.C).drop (j * 2)).take 2 = r.C
  | [], j, r, h => by simp at h
  | x :: rs, 0, r, h => by
    simp at h; subst h; rfl
  | x :: rs, j + 1, r, h => by
    have ih := flat_at rs j r (by simpa using h)
    rw [show (j + 1) * 2 = 2 + j * 2 by omega, ← List.drop_drop]
    exact ih
theorem flat_reads {w0 W : World} {F : List Nat} {L : List Ent} (H : Heap w0 F L W) (i : Nat) {b : Nat} {rs : List RunS} {T : TypeId} (hi : L[i]? = some (vec C1.v b (rs.flatMap RunS.C) T)) {j : Nat} {r : RunS} (hj : rs[j]? = some r) : Reads C1.v W b (j * 2) r.C := by
  have := H.reads i hi (j * 2) 2
  rwa [flat_at rs j r hj] at this
theorem encs_app (a b : List (Nat × List Int)) : Im.encs (a ++ b) = Im.encs a ++ Im.encs b := by simp [Im.encs]
theorem runs_E {rs : List RunS} {r : RunS} {j : Nat} (hj : rs[j]? = some r) : ownN 1 (.slice r.A r.l.length r.c) r.l.length (r.l.map (Value.int .u64)) 22 ∈ rs.map RunS.E :=
  List.mem_map.2 ⟨r, List.mem_of_getElem? hj, rfl⟩
theorem rn_bd : ∀ (k : Nat) (l : List Int), l.length ≤ k → ∀ r ∈ Im.rn l, r.1 + r.2.length ≤ l.length
  | 0, l, h, r, hr => by
    obtain rfl : l = [] := List.eq_nil_of_length_eq_zero (by omega)
    rw [Im.rn_nil] at hr; cases hr
  | k + 1, l, h, r, hr => by
    by_cases hl : l = []
    · subst hl; rw [Im.rn_nil] at hr; cases hr
    · have h1 := Im.step_pos l hl
      have h2 := Im.step_le l
      have h3 : Im.step l = Im.zr l + Im.nr (l.drop (Im.zr l)) := rfl
      rw [Im.rn_cons l hl] at hr
      rcases List.mem_cons.1 hr with rfl | hr
      · simp only [List.length_take, List.length_drop]; omega
      · have := rn_bd k (l.drop (Im.step l)) (by rw [List.length_drop]; omega) r hr
        rw [List.length_drop] at this; omega
theorem encs_ge : ∀ rs : List (Nat × List Int), rs.length ≤ (Im.encs rs).length
  | [] => Nat.le_refl _
  | r :: rs => by
    have := encs_ge rs
    simp only [Im.encs, List.flatMap_cons, Im.enc1, List.length_cons, List.length_append] at this ⊢
    omega
theorem iSave (g : Geo) (d : Nv.D) (m : Nat) (w : World) (hE : Ents (devL g d) w) (ho : Nv.Ok d m) (hU : Im.U d.last) (hm : m ≤ 20000) :
    Calls Try.prog 48 [ptr g.p].toArray w (Gives .u8 5 (Im.save d.last) w) := by
  have HR := Heap.start hE
  have H := Heap.nil w
  have hlen := ho.hl
  generalize hws : d.last = ws at *
  have hbl := Im.body_len ws.length ws (Nat.le_refl _)
  have hhU := Im.head_bd (l := ws) (by omega) hU
  have hoU := Im.out_bd (l := ws) (by omega) hU
  have hA := nAll g d m w hE ho (by omega)
  rw [hws] at hA
  refine k_in (N := 43) Try.func48 rfl rfl rfl ?_
  refine k_seq ?_
  refine k_rg ?_
  refine s_run rfl rfl (r_as (v := .slice _ _ _) rfl) ?_
  refine k_nil ?_
  refine c_norm ?_
  refine k_seq ?_
  refine k_rg ?_
  refine s_run rfl rfl (r_mv (v := .pointer _) rfl) ?_
  refine s_call rfl (hA) (ca47 rfl) ?_
  rintro e W1 ⟨ba, ca, rfl, hca, H'⟩
  refine ⟨_, rfl, ?_⟩
  have H := H.more (A := [_]) H'; clear H'; simp only [List.cons_append, List.nil_append] at H
  refine s_run rfl rfl (r_as (v := .slice _ _ _) rfl) ?_
  refine k_nil ?_
  refine c_norm ?_
  refine k_seq ?_
  refine k_rg ?_
  refine s_run rfl rfl (r_mv (v := .slice _ _ _) rfl) ?_
  refine s_run rfl rfl (r_len rfl Try.underlying25) ?_
  refine s_run rfl rfl (r_cv rfl (by kernel_rfl) Try.underlying22 (wU (by omega))) ?_
  refine s_bsO (enc := (Value.int .u64)) (zs := [13905993476890996, ((8 * m : Nat) : Int)]) H rfl rfl rfl (by omega) (by kernel_rfl) Try.underlying25 inf22 ?_
  intro po _ H'; clear H; have H := H'; clear H'
  refine s_run rfl rfl (r_as (v := .slice _ _ _) rfl) ?_
  refine k_nil ?_
  refine c_norm ?_
  refine k_seq ?_
  refine k_seq ?_
  refine k_rg ?_
  refine s_run rfl rfl (r_mv (v := .slice _ _ _) rfl) ?_
  refine s_call rfl (iRuns _ _ _ ws _ ((H.sees (m := 1) 1 rfl (F := []) (by simp) (fun _ => rfl) (by simp))) hlen (by omega)) (ca85 rfl) ?_
  rintro e W1 ⟨A', c', rs, rfl, hrs, H'⟩
  refine ⟨_, rfl, ?_⟩
  have H := H.more (A := [_, _]) H'; clear H'; simp only [List.cons_append, List.nil_append] at H
  refine s_run rfl rfl (r_len rfl Try.underlying128) ?_
  refine s_run rfl rfl (r_mv (v := .int _ _) rfl) ?_
  refine k_nil ?_
  refine c_norm ?_
  refine k_b ?_
  obtain ⟨br, hAr, hlr, H2⟩ := own_vecN (by omega) H
  clear H
  have H := H2
  clear H2
  have hbody : Im.body ws = Im.encs (rs.map RunS.P) := by rw [hrs]; rfl
  refine k_loop (fun z f W => ∃ (j : Nat) (A2 : Option Addr) (c2 q : Nat) (l : List Int), j ≤ rs.length ∧ z = rs.length - j ∧ l = Im.magic :: (ws.length : Int) :: Im.encs ((rs.take j).map RunS.P) ∧ q = l.length ∧ f 4 = .slice A2 q c2 ∧ f 14 = .slice A' rs.length c' ∧ f 15 = .int .i64 rs.length ∧ f 16 = .int .i64 j ∧ Heap w [] [vec C1.v br (rs.flatMap RunS.C) 131, grp (rs.map RunS.E), ownN 1 (.slice A2 q c2) q (l.map (Value.int .u64)) 22, vec (Value.int .u64) ba ws 22] W) rs.length ⟨0, some ⟨po, 0, none⟩, 2, 2, [Im.magic, (ws.length : Int)], by omega, rfl, rfl, rfl, rfl, rfl, rfl, rfl, by rw [hlen]; exact H⟩ ?_
  clear H
  rintro z f W ⟨j, A2, c2, q, l, hj, rfl, hl, hq, f4, f14, f15, f16, H⟩
  obtain ⟨f, rfl⟩ := live4 f4 f14 f15 f16
  clear f4 f14 f15 f16
  have hqb : q ≤ (Im.body ws).length + 2 := by
    rw [hq, hl, hbody]
    have e : rs.map RunS.P = (rs.take j).map RunS.P ++ (rs.drop j).map RunS.P := by rw [← List.map_append, List.take_append_drop]
    rw [e, encs_app]
    simp only [List.length_cons, List.length_append]
    omega
  have hrb : rs.length ≤ (Im.body ws).length := by
    rw [hbody]; simpa using encs_ge (rs.map RunS.P)
  by_cases hlt : j < rs.length
  · obtain ⟨r, hr⟩ : ∃ r, rs[j]? = some r := ⟨_, List.getElem?_eq_getElem hlt⟩
    obtain rfl := hAr (by omega)
    have hrl : r.l.length ≤ (Im.body ws).length := by
      rw [hbody]
      have e : rs.map RunS.P = (rs.take j).map RunS.P ++ RunS.P r :: (rs.drop (j + 1)).map RunS.P := by
        rw [← List.map_cons, ← List.map_append]
        congr 1
        have : rs.drop j = r :: rs.drop (j + 1) := by
          rw [List.drop_eq_getElem_cons hlt]
          congr 1
          rw [List.getElem?_eq_getElem hlt] at hr; simpa using hr
        rw [← this, List.take_append_drop]
      rw [e, encs_app]
      simp only [List.length_append, Im.encs, List.flatMap_cons, Im.enc1, RunS.P, List.length_cons]
      omega
    have hrz := rn_bd _ ws (Nat.le_refl _) (RunS.P r) (by rw [← hrs]; exact List.mem_map.2 ⟨r, List.mem_of_getElem? hr, rfl⟩)
    simp only [RunS.P] at hrz
    refine k_seq ?_
    refine k_rg ?_
    refine s_run rfl rfl (r_lssT rfl rfl (by omega)) ?_
    refine k_nil ?_
    refine c_norm ?_
    refine k_seq ?_
    refine k_t rfl ?_
    refine k_skip ?_
    refine c_norm ?_
    refine k_seq ?_
    refine k_b ?_
    refine k_seq ?_
    refine k_rg ?_
    refine s_run rfl rfl (r_ix0 rfl rfl rfl (by omega) Try.underlying128 sz131) ?_
    refine s_run rfl rfl (r_lA (enc := C1.v) (zs := r.C) (flat_reads H 0 rfl hr) rfl rfl ag131 sz131) ?_
    refine s_al H rfl inf131 ?_
    intro p6 _ H'; clear H; have H := H'; clear H'
    refine s_sw H 0 rfl rfl rfl rfl rfl rfl rfl sz131 ?_
    intro _ H'; simp only [List.set_cons_zero, List.set_cons_succ, List.take_succ_cons, List.take_zero, List.drop_succ_cons, List.drop_zero, List.cons_append, List.nil_append, List.append_nil, List.length_cons, List.length_nil, Nat.reduceAdd] at H'; clear H; have H := H'; clear H'
    refine k_nil ?_
    refine c_norm ?_
    refine k_seq ?_
    refine k_rg ?_
    refine s_run rfl rfl (r_mv (v := .slice _ _ _) rfl) ?_
    refine s_run rfl rfl (r_fa0 rfl fo131_0) ?_
    refine s_run rfl rfl (r_lo H 0 rfl rfl rfl ag3) ?_
    refine s_run rfl rfl (r_cv rfl (by kernel_rfl) Try.underlying22 (wU (by omega))) ?_
    refine s_run rfl rfl (r_fa0 rfl fo131_1) ?_
    refine s_run rfl rfl (r_lo H 0 rfl rfl rfl ag25) ?_
    refine s_run rfl rfl (r_len rfl Try.underlying25) ?_
    refine s_run rfl rfl (r_cv rfl (by kernel_rfl) Try.underlying22 (wU (by omega))) ?_
    refine s_appL (enc := (Value.int .u64)) (zs := [(r.z : Int), (r.l.length : Int)]) H 3 rfl rfl rfl rfl (by omega) (by kernel_rfl) (fun _ => rfl) (fun _ => rfl) (fun _ => rfl) rfl (by omega) Try.underlying25 inf22 rfl ?_
    intro _ An cn _ H'; simp only [List.set_cons_zero, List.set_cons_succ, List.take_succ_cons, List.take_zero, List.drop_succ_cons, List.drop_zero, List.cons_append, List.nil_append, List.append_nil, List.length_cons, List.length_nil, Nat.reduceAdd] at H'; clear H; have H := H'; clear H'
    refine s_run rfl rfl (r_as (v := .slice _ _ _) rfl) ?_
    refine k_nil ?_
    refine c_norm ?_
    refine k_rg ?_
    refine s_run rfl rfl (r_mv (v := .slice _ _ _) rfl) ?_
    refine s_run rfl rfl (r_fa0 rfl fo131_1) ?_
    refine s_run rfl rfl (r_lo H 0 rfl rfl rfl ag25) ?_
    refine s_apW (enc := (Value.int .u64)) H 3 rfl rfl rfl rfl (Ents.own_sees (H.grp_ents 2 rfl) (runs_E hr)) (rfl) (fun _ => rfl) (by omega) Try.underlying25 inf22 rfl ?_
    intro _ _ _ H'; simp only [List.set_cons_zero, List.set_cons_succ, List.take_succ_cons, List.take_zero, List.drop_succ_cons, List.drop_zero, List.cons_append, List.nil_append, List.append_nil, List.length_cons, List.length_nil, Nat.reduceAdd] at H'; clear H; have H := H'; clear H'
    refine s_run rfl rfl (r_as (v := .slice _ _ _) rfl) ?_
    refine k_nil ?_
    refine b_norm ?_
    refine c_norm ?_
    refine k_rg ?_
    refine s_run rfl rfl (r_add rfl rfl (wI (by omega))) ?_
    refine s_run rfl rfl (r_mv (v := .int _ _) rfl) ?_
    refine k_nil ?_
    refine c_round ?_
    refine ⟨_, _, ?_, rfl, j + 1, _, _, _, _, by omega, rfl, ?_, ?_, rfl, rfl, rfl, rfl, H.drop⟩
    · omega
    · rw [hl, List.take_add_one, hr]
      simp [encs_app, Im.encs, Im.enc1, RunS.P]
    · simp [hq]; omega
  · obtain rfl : j = rs.length := by omega
    have hl2 : l = Im.head ws := by
      rw [hl, List.take_length, ← hbody]; rfl
    have hsum := Im.sum_bd (Im.head ws)
    rw [hl2] at H hq
    have hql : (Im.head ws ++ [Im.sum (Im.head ws)]).length = q + 1 := by rw [hq]; simp
    refine k_seq ?_
    refine k_rg ?_
    refine s_run rfl rfl (r_lssF rfl rfl (by omega)) ?_
    refine k_nil ?_
    refine c_norm ?_
    refine k_seq ?_
    refine k_f rfl ?_
    refine k_exit ?_
    refine c_exit ?_
    refine c_exit ?_
    refine b_hit ?_
    refine c_norm ?_
    refine k_seq ?_
    refine k_rg ?_
    refine s_run rfl rfl (r_mv (v := .slice _ _ _) rfl) ?_
    refine s_run rfl rfl (r_mv (v := .slice _ _ _) rfl) ?_
    refine s_call rfl (cWords A2 q c2 (Im.head ws) _ (H.own_sees 2 rfl) hq.symm hhU (by omega)) (ca82 rfl) ?_
    rintro e W1 ⟨rfl, H'⟩
    refine ⟨_, rfl, ?_⟩
    have H := H.same H'; clear H'
    refine s_run rfl rfl (r_cv rfl (by kernel_rfl) Try.underlying22 (wU (by omega))) ?_
    refine s_app1 (enc := (Value.int .u64)) H 2 rfl rfl rfl rfl rfl rfl rfl (by omega) Try.underlying25 inf22 rfl ?_
    intro _ An cn _ H'; simp only [List.set_cons_zero, List.set_cons_succ, List.take_succ_cons, List.take_zero, List.drop_succ_cons, List.drop_zero, List.cons_append, List.nil_append, List.append_nil, List.length_cons, List.length_nil, Nat.reduceAdd] at H'; clear H; have H := H'; clear H'
    refine s_run rfl rfl (r_as (v := .slice _ _ _) rfl) ?_
    refine k_nil ?_
    refine c_norm ?_
    refine k_seq ?_
    refine k_rg ?_
    refine s_run rfl rfl (r_mv (v := .slice _ _ _) rfl) ?_
    refine s_call rfl (cBytes _ _ _ (Im.out ws) _ (H.own_sees 2 rfl) hql hoU (by omega)) (ca86 rfl) ?_
    rintro e W1 ⟨Ab, cb, rfl, H'⟩
    refine ⟨_, rfl, ?_⟩
    have H := H.more (A := [_]) H'; clear H'
    refine s_run rfl rfl (r_as (v := .slice _ _ _) rfl) ?_
    refine k_nil ?_
    refine c_norm ?_
    refine k_ret ?_
    refine fin1r (v := .slice _ _ _) rfl rfl ?_
    exact ⟨_, _, rfl, H.drops⟩
end Go.Proofs.Ytmekhdclnhhhbaa
end

section
namespace Go.Proofs.Ytmekhdclnhhhbaa
open Go.RowKit
set_option linter.unusedSimpArgs false
set_option linter.unusedVariables false
end Go.Proofs.Ytmekhdclnhhhbaa
end

section
namespace Go.Proofs.Ytmekhdclnhhhbaa
set_option linter.unusedSimpArgs false
set_option linter.unusedVariables false
open Go.RowKit
section
variable {P : Program} {W : World}
end
section
variable {P : Program} {n : Nat} {f : Nat → Value} {W w0 : World} {dst : Option Tmp} {ty : TypeId} {pos : String} {af : Array Edge} {g : Option (Nat × Bool)} {x y : Operand} {t t2 e : TypeId} {v : Value} {k k2 : IntKind} {a b : Int}
end
section
variable {P : Program} {ops : Array Oper} {rest : List Oper} {n k k2 : Nat} {f : Nat → Value} {W w0 : World} {F : List Nat} {L : List Ent} {Q : Exit → Act → World → Prop} {ty ty2 : TypeId} {pos pos2 : String} {af af2 : Array Edge} {g : Option (Nat × Bool)} {x y s : Operand} {v u : Value} {t tn e : TypeId}
end
end Go.Proofs.Ytmekhdclnhhhbaa
end

section
namespace Go.Proofs.Ytmekhdclnhhhbaa
open Go.RowKit
set_option linter.unusedSimpArgs false
set_option linter.unusedVariables false
section
variable {P : Program} {n : Nat} {f : Nat → Value} {W w0 : World} {dst : Option Tmp} {ty : TypeId} {pos : String} {af : Array Edge} {g : Option (Nat × Bool)} {x y : Operand} {t t2 e : TypeId} {v : Value} {k k2 : IntKind} {a b : Int}
end
end Go.Proofs.Ytmekhdclnhhhbaa
end

section
namespace Go.Proofs.Ytmekhdclnhhhbaa
open Go.RowKit
set_option linter.unusedSimpArgs false
set_option linter.unusedVariables false
theorem Reads.sees {α : Type} {enc : α → Value} {W : World} {b o : Nat} {xs : List α} (h : Reads enc W b o xs) : Sees enc W [] (some ⟨b, o, none⟩) xs := fun _ => ⟨b, o, rfl, by simp, h⟩
theorem Gives.vec {k : IntKind} {T : TypeId} {xs : List Int} {w w' : World} {e : Ending} (h : Gives k T xs w e w') (h0 : 0 < xs.length) :
    ∃ b c, e = .returned (.slice (some ⟨b, 0, none⟩) xs.length c) ∧ xs.length ≤ c ∧ c ≤ maxLen ∧ Heap w [] [vec (Value.int k) b xs T] w' := by
  obtain ⟨A, c, rfl, H⟩ := h
  obtain ⟨b, c2, he, h1, h2, H2⟩ := own_vec H h0
  exact ⟨b, c2, congrArg _ he, h1, h2, H2⟩
theorem hfin {w W W' : World} {L : List Ent} {g : Geo} {d : Nv.D} (H : Heap w [] L W) (H' : Heap W [] (devL g d) W') : Heap w [] (devL g d) W' := (H.more H').drops
end Go.Proofs.Ytmekhdclnhhhbaa
end

section
namespace Go.Proofs.Ytmekhdclnhhhbaa
open Go.RowKit
set_option linter.unusedSimpArgs false
set_option linter.unusedVariables false
end Go.Proofs.Ytmekhdclnhhhbaa
end

section
namespace Go.Proofs.Ytmekhdclnhhhbaa
open Go.RowKit
set_option linter.unusedSimpArgs false
set_option linter.unusedVariables false
theorem RefOk.at {w W : World} {L : List Ent} {F X : List Nat} {s : RefS} {d : Nv.D} {m : Nat} (hr : RefOk w (F ++ X) s d m) (H : Heap w F L W) : RefOk W ((F ++ X) ++ ids L) s d m :=
  (hr.news (G := (F ++ X) ++ ids L) (fun i hi => by
    rcases List.mem_append.1 hi with h | h
    · exact .inl h
    · rcases H.own i h with h | h
      · exact .inl (List.mem_append_left _ h)
      · exact .inr h)).later H.only (fun _ h => List.mem_append_left _ (List.mem_append_left _ h))
theorem Heap.fl {w W : World} {L : List Ent} {F G : List Nat} (H : Heap w F L W) (hG : ∀ i ∈ G, i < w.heap.size) : ∀ i ∈ G ++ ids L, i < W.heap.size := by
  intro i hi
  rcases List.mem_append.1 hi with h | h
  · exact Nat.lt_of_lt_of_le (hG i h) H.only.size
  · exact H.idlt i h
section
variable (g : Geo) (d : Nv.D) (s : RefS) (m : Nat) (k a n v : Int) (A : Option Addr) (nc cc : Nat) (cs : List Int) (X : List Nat) (w : World)

end
end Go.Proofs.Ytmekhdclnhhhbaa
end

section
namespace Go.Proofs.Ytmekhdclnhhhbaa
open Go.RowKit
set_option linter.unusedSimpArgs false
set_option linter.unusedVariables false
theorem load8 : Nv.Ok (Nv.load (List.replicate (8 * 1) 0) 1) 1 := ⟨rfl, rfl, rfl, rfl, rfl⟩
/-- a call, as the script holds it -/
structure OpS where
  k : Int
  a : Int
  n : Int
  v : Int
  A : Option Addr
  nc : Nat
  cc : Nat
  cs : List Int
def OpS.cells (o : OpS) : List Value := [.int .i64 o.k, .int .i64 o.a, .int .i64 o.n, .int .u64 o.v, .slice o.A o.nc o.cc]
structure OpOk (w : World) (o : OpS) : Prop where
  see : Sees (Value.int .u8) w [] o.A o.cs
  len : o.cs.length = o.nc
  bd : ∀ z ∈ o.cs, 0 ≤ z
  n1 : -9223372036854775808 ≤ o.n ∧ o.n ≤ 9223372036854775807
  ncb : o.nc ≤ 9223372036854775807
  vb : 0 ≤ o.v ∧ o.v ≤ 18446744073709551615
def Script (w : World) (A : Option Addr) (ops : List OpS) : Prop := (ops.length ≠ 0 → ∃ b o, A = some ⟨b, o, none⟩ ∧ ∀ i op, ops[i]? = some op → Reads (fun v : Value => v) w b (o + i * 5) op.cells) ∧ ∀ op ∈ ops, OpOk w op
end Go.Proofs.Ytmekhdclnhhhbaa
end

section
namespace Go.Proofs.Ytmekhdclnhhhbaa
open Go.RowKit
set_option linter.unusedSimpArgs false
set_option linter.unusedVariables false
def start (zs : List Int) : Nv.D := Nv.load (zs ++ List.replicate (8 * ((zs.length + 7) / 8) - zs.length) 0) ((zs.length + 7) / 8)
end Go.Proofs.Ytmekhdclnhhhbaa
end

section
namespace Go.Proofs.Ytmekhdclnhhhbaa
set_option linter.unusedSimpArgs false
set_option linter.unusedVariables false
section
open Go.ChangeShapes Go.WideShapes Go.Deep
variable {H : Type} {enc : TypeId × Value → H} {w : World} {base : Nat} {spare : Nat → Bool} {held : Bool}
theorem add_none {b o i : Nat} : (⟨b, o, none⟩ : Addr).add i = ⟨b, o + i, none⟩ := by
  unfold Addr.add; split
  · subst_vars; rfl
  · rfl
theorem row_words {k : IntKind} {A : Option Addr} {n c : Nat} {zs : List Int} (h : IsRow k w A n c zs) : Sees (Value.int k) w [] A (zs.take n) ∧ (zs.take n).length = n ∧ n ≤ c ∧ c ≤ maxLen ∧ ∀ z ∈ zs.take n, (Lit.int k z).wf = true := by
  rcases h with ⟨rfl, rfl, rfl, rfl⟩ | ⟨x, rfl, hl, hm, hz, hcell, hwf⟩
  · exact ⟨Sees.nil, rfl, by omega, by decide, by simp⟩
  · refine ⟨fun h0 => ?_, by simp; omega, hl, hm, fun z hz => hwf z (List.mem_of_mem_take hz)⟩
    obtain ⟨b, off, spot⟩ := x
    have h0' : 0 < n := by simp at h0; omega
    have hc0 := hcell 0 (by omega)
    have hspot : spot = none := by simpa [Addr.add] using World.cell?_spot hc0
    subst hspot
    refine ⟨b, off, rfl, by simp, fun j z hj => ?_⟩
    have hjl : j < n := by have := (List.getElem?_eq_some_iff.1 hj).1; simp at this; omega
    rw [List.getElem?_take_of_lt hjl] at hj
    have hc2 := hcell j (by omega)
    rw [add_none] at hc2
    rw [hc2]
    simp [List.getD, hj]
end
open Go.RowKit
theorem OpOk.later {w W : World} {o : OpS} (h : OpOk w o) (hO : Only [] w W) : OpOk W o := ⟨h.see.later hO (by simp), h.len, h.bd, h.n1, h.ncb, h.vb⟩
theorem Script.later {w W : World} {A : Option Addr} {ops : List OpS} (h : Script w A ops) (hO : Only [] w W) : Script W A ops :=
  ⟨fun h0 => by
    obtain ⟨b, o, e, hr⟩ := h.1 h0
    exact ⟨b, o, e, fun i op hi => (hr i op hi).later hO (by simp)⟩, fun op hop => (h.2 op hop).later hO⟩
end Go.Proofs.Ytmekhdclnhhhbaa
end

section
namespace Go.Proofs.Ytmekhdclnhhhbaa
open Go.RowKit
set_option linter.unusedSimpArgs false
set_option linter.unusedVariables false
section
variable {P : Program} {n : Nat} {f : Nat → Value} {x y : Operand} {t t2 ty : TypeId} {pos : String} {af : Array Edge} {g : Option (Nat × Bool)} {dst : Option Tmp} {W : World}
theorem r_beqT {a b : Bool} (hx : ev n f x = .bool a) (hy : ev n f y = .bool b) (h : a = b) (ht : P.underlying t = some .bool) : (execOp (ev n f) ⟨dst, .binOp .eql t x y t2, ty, pos, af, g⟩).run P W = .ok (.value (.bool true)) W := by
  subst h
  have h : ∀ d : Nat, (Op.equalIn (d + 1) t (.bool a) (.bool a)).run P W = .ok true W := fun d => by
    simp [Op.equalIn, run_underlying ht]
  have h2 : (binOp .eql t (.bool a) (.bool a)).run P W = .ok (.bool true) W := by
    simp only [binOp]
    simp [Op.equal, Op.maxDepth, h 9999]
  have h3 : (eqGuard .eql t x y (.bool a) (.bool a)).run P W = .ok () W := by simp [eqGuard]
  simp only [execOp, hx, hy, Sem.run_bind, h3, h2, Result.andThen_ok]; rfl
end
end Go.Proofs.Ytmekhdclnhhhbaa
end

section
namespace Go.Proofs.Ytmekhdclnhhhbaa.Nv
set_option linter.unusedSimpArgs false
set_option linter.unusedVariables false
theorem getD_set {α : Type} (l : List α) (i j : Nat) (v z : α) (hi : i < l.length) : (l.set i v).getD j z = if i = j then v else l.getD j z := by
  simp only [List.getD, List.getElem?_set]
  split
  · subst_vars; simp [hi]
  · rfl
/-- a line that is not dirty lasts as it is; what is pending is dirty -/
structure Inv (d : D) (m : Nat) : Prop where
  ok : Ok d m
  cl : ∀ x, x < 8 * m → d.dirty.getD (x / 8) false = false → d.last.getD x 0 = d.cache.getD x 0
  pd : ∀ i, d.pend.getD i false = true → d.dirty.getD i false = true
theorem Inv.load (ws : List Int) (m : Nat) (h : ws.length = 8 * m) : Inv (load ws m) m :=
  ⟨⟨h, h, by simp [Nv.load, h], by simp [Nv.load], by simp [Nv.load]⟩, fun _ _ _ => rfl, fun i hi => by
    have : (List.replicate m false).getD i false = true := hi
    simp only [List.getD, List.getElem?_replicate] at this
    split at this <;> simp at this⟩
theorem Inv.killed {d : D} {m : Nat} (h : Inv d m) : Inv (killed d) m := ⟨h.ok.killed, h.cl, h.pd⟩
theorem Inv.stepped {d : D} {m : Nat} (h : Inv d m) : Inv (stepped d) m := ⟨h.ok.stepped, h.cl, h.pd⟩
theorem Inv.put {d : D} {m : Nat} (h : Inv d m) {a : Nat} (ha : a < 8 * m) (v : Int) : Inv (put d a v) m := by
  have hd := h.ok.hd
  have hc := h.ok.hc
  refine ⟨h.ok.put a v, fun x hx hdx => ?_, fun i hi => ?_⟩
  · have e : (d.dirty.set (a / 8) true).getD (x / 8) false = false := hdx
    rw [getD_set _ _ _ _ _ (by omega)] at e
    split at e
    · cases e
    · show d.last.getD x 0 = (d.cache.set a v).getD x 0
      rw [getD_set _ _ _ _ _ (by omega), if_neg (by rintro rfl; exact absurd rfl ‹_›)]
      exact h.cl x hx e
  · show (d.dirty.set (a / 8) true).getD i false = true
    rw [getD_set _ _ _ _ _ (by omega)]
    split
    · rfl
    · exact h.pd i hi
theorem Inv.flushed {d : D} {m : Nat} (h : Inv d m) {i : Nat} (hi : i < m) (hd : d.dirty.getD i false = true) : Inv (flushed d i) m := by
  have hp := h.ok.hp
  refine ⟨h.ok.flushed hi, h.cl, fun j hj => ?_⟩
  have e : (d.pend.set i true).getD j false = true := hj
  rw [getD_set _ _ _ _ _ (by omega)] at e
  split at e
  · subst_vars; exact hd
  · exact h.pd j e
theorem Inv.store {d : D} {m : Nat} (h : Inv d m) (a v : Int) : Inv (store d m a v).1 m := by
  unfold Nv.store; split
  · split
    · exact h.killed
    · exact h.stepped.put (by omega) _
  · exact h
end Go.Proofs.Ytmekhdclnhhhbaa.Nv
end

section
namespace Go.Proofs.Ytmekhdclnhhhbaa
open Go.RowKit
set_option linter.unusedSimpArgs false
set_option linter.unusedVariables false
theorem get_nat {l : List Int} {k : Nat} (h : k < l.length) : Nv.get l (k : Int) = l.getD k default := by
  unfold Nv.get
  rw [if_pos (by omega), Int.toNat_natCast]; rfl
theorem iSame (g1 g2 : Geo) (d1 d2 : Nv.D) (m1 m2 : Nat) (w : World) (hE1 : Ents (devL g1 d1) w) (hE2 : Ents (devL g2 d2) w) (o1 : Nv.Ok d1 m1) (o2 : Nv.Ok d2 m2) (hm : m1 ≤ 100000) :
    Calls Try.prog 41 [ptr g1.p, ptr g2.p].toArray w fun e w' => e = .returned (.bool (Nv.same d1.last d2.last)) ∧ Only [] w w' := by
  have HR1 := Heap.start hE1
  have HR2 := Heap.start hE2
  have H := Heap.nil w
  have hL1 := nLen g1 d1
  have hL2 := nLen g2 d2
  rw [o1.hc] at hL1
  rw [o2.hc] at hL2
  have l1 := o1.hl
  have l2 := o2.hl
  by_cases hne : m1 = m2
  · subst hne
    refine k_in (N := 24) Try.func41 rfl rfl rfl ?_
    refine k_seq ?_
    refine k_rg ?_
    refine s_run rfl rfl (r_as (v := .bool _) rfl) ?_
    refine k_nil ?_
    refine c_norm ?_
    refine k_seq ?_
    refine k_seq ?_
    refine k_rg ?_
    refine s_run rfl rfl (r_mv (v := .pointer _) rfl) ?_
    refine s_call rfl (hL1 _ (HR1.same H.only).ents) (ca24 rfl) ?_
    rintro e W1 ⟨rfl, H'⟩
    refine ⟨_, rfl, ?_⟩
    have H := H.same H'; clear H'
    refine s_run rfl rfl (r_mv (v := .pointer _) rfl) ?_
    refine s_call rfl (hL2 _ (HR2.same H.only).ents) (ca24 rfl) ?_
    rintro e W1 ⟨rfl, H'⟩
    refine ⟨_, rfl, ?_⟩
    have H := H.same H'; clear H'
    refine s_run rfl rfl (r_neqF rfl rfl (by omega)) ?_
    refine k_nil ?_
    refine c_norm ?_
    refine k_f rfl ?_
    refine k_skip ?_
    refine c_norm ?_
    refine k_seq ?_
    refine k_seq ?_
    refine k_rg ?_
    refine s_run rfl rfl (r_mv (v := .pointer _) rfl) ?_
    refine s_call rfl (hL1 _ (HR1.same H.only).ents) (ca24 rfl) ?_
    rintro e W1 ⟨rfl, H'⟩
    refine ⟨_, rfl, ?_⟩
    have H := H.same H'; clear H'
    refine s_run rfl rfl (r_mv (v := .int _ _) rfl) ?_
    refine k_nil ?_
    refine c_norm ?_
    refine k_b ?_
    refine k_loop (fun z f W => ∃ k : Nat, k ≤ 8 * m1 ∧ z = 8 * m1 - k ∧ (∀ i, i < k → d1.last.getD i default = d2.last.getD i default) ∧ f 0 = ptr g1.p ∧ f 1 = ptr g2.p ∧ f 12 = .int .i64 ((8 * m1 : Nat) : Int) ∧ f 13 = .int .i64 k ∧ Heap w [] [] W) (8 * m1) ⟨0, by omega, rfl, by omega, rfl, rfl, rfl, rfl, H⟩ ?_
    clear H
    rintro z f W ⟨k, hk, rfl, hall, f0, f1, f12, f13, H⟩
    obtain ⟨f, rfl⟩ := live4 f0 f1 f12 f13
    clear f0 f1 f12 f13
    by_cases hlt : k < 8 * m1
    · have hG1 := nLasting g1 d1 k
      have hG2 := nLasting g2 d2 k
      rw [get_nat (by omega)] at hG1 hG2
      by_cases he : d1.last.getD k default = d2.last.getD k default
      · refine k_seq ?_
        refine k_rg ?_
        refine s_run rfl rfl (r_lssT rfl rfl (by omega)) ?_
        refine k_nil ?_
        refine c_norm ?_
        refine k_seq ?_
        refine k_t rfl ?_
        refine k_skip ?_
        refine c_norm ?_
        refine k_seq ?_
        refine k_b ?_
        refine k_seq ?_
        refine k_rg ?_
        refine s_run rfl rfl (r_mv (v := .int _ _) rfl) ?_
        refine s_run rfl rfl (r_as (v := .int _ _) rfl) ?_
        refine k_nil ?_
        refine c_norm ?_
        refine k_seq ?_
        refine k_rg ?_
        refine s_run rfl rfl (r_mv (v := .pointer _) rfl) ?_
        refine s_run rfl rfl (r_mv (v := .int _ _) rfl) ?_
        refine s_call rfl (hG1 _ (HR1.same H.only).ents) (ca26 rfl) ?_
        rintro e W1 ⟨rfl, H'⟩
        refine ⟨_, rfl, ?_⟩
        have H := H.same H'; clear H'
        refine s_run rfl rfl (r_mv (v := .pointer _) rfl) ?_
        refine s_run rfl rfl (r_mv (v := .int _ _) rfl) ?_
        refine s_call rfl (hG2 _ (HR2.same H.only).ents) (ca26 rfl) ?_
        rintro e W1 ⟨rfl, H'⟩
        refine ⟨_, rfl, ?_⟩
        have H := H.same H'; clear H'
        refine s_run rfl rfl (r_neqF rfl rfl (by omega)) ?_
        refine k_nil ?_
        refine c_norm ?_
        refine k_f rfl ?_
        refine k_skip ?_
        refine b_norm ?_
        refine c_norm ?_
        refine k_rg ?_
        refine s_run rfl rfl (r_add rfl rfl (wI (by omega))) ?_
        refine s_run rfl rfl (r_mv (v := .int _ _) rfl) ?_
        refine k_nil ?_
        refine c_round ?_
        refine ⟨_, _, ?_, rfl, k + 1, by omega, rfl, ?_, rfl, rfl, rfl, rfl, H⟩
        · omega
        · intro i hi
          by_cases hik : i = k
          · subst hik; exact he
          · exact hall i (by omega)
      · rw [same_no he]
        refine k_seq ?_
        refine k_rg ?_
        refine s_run rfl rfl (r_lssT rfl rfl (by omega)) ?_
        refine k_nil ?_
        refine c_norm ?_
        refine k_seq ?_
        refine k_t rfl ?_
        refine k_skip ?_
        refine c_norm ?_
        refine k_seq ?_
        refine k_b ?_
        refine k_seq ?_
        refine k_rg ?_
        refine s_run rfl rfl (r_mv (v := .int _ _) rfl) ?_
        refine s_run rfl rfl (r_as (v := .int _ _) rfl) ?_
        refine k_nil ?_
        refine c_norm ?_
        refine k_seq ?_
        refine k_rg ?_
        refine s_run rfl rfl (r_mv (v := .pointer _) rfl) ?_
        refine s_run rfl rfl (r_mv (v := .int _ _) rfl) ?_
        refine s_call rfl (hG1 _ (HR1.same H.only).ents) (ca26 rfl) ?_
        rintro e W1 ⟨rfl, H'⟩
        refine ⟨_, rfl, ?_⟩
        have H := H.same H'; clear H'
        refine s_run rfl rfl (r_mv (v := .pointer _) rfl) ?_
        refine s_run rfl rfl (r_mv (v := .int _ _) rfl) ?_
        refine s_call rfl (hG2 _ (HR2.same H.only).ents) (ca26 rfl) ?_
        rintro e W1 ⟨rfl, H'⟩
        refine ⟨_, rfl, ?_⟩
        have H := H.same H'; clear H'
        refine s_run rfl rfl (r_neqT rfl rfl (by omega)) ?_
        refine k_nil ?_
        refine c_norm ?_
        refine k_t rfl ?_
        refine k_seq ?_
        refine k_rg ?_
        refine s_run rfl rfl (r_as (v := .bool _) rfl) ?_
        refine k_nil ?_
        refine c_norm ?_
        refine k_ret ?_
        refine b_ret ?_
        refine c_ret ?_
        refine c_ret ?_
        refine b_ret ?_
        refine c_ret ?_
        refine fin1r (v := .bool _) rfl rfl ?_
        exact ⟨rfl, H.only⟩
    · obtain rfl : k = 8 * m1 := by omega
      have hs : Nv.same d1.last d2.last = true := decide_eq_true (all_upto hall l1 l2)
      rw [hs]
      refine k_seq ?_
      refine k_rg ?_
      refine s_run rfl rfl (r_lssF rfl rfl (by omega)) ?_
      refine k_nil ?_
      refine c_norm ?_
      refine k_seq ?_
      refine k_f rfl ?_
      refine k_exit ?_
      refine c_exit ?_
      refine c_exit ?_
      refine b_hit ?_
      refine c_norm ?_
      refine k_seq ?_
      refine k_rg ?_
      refine s_run rfl rfl (r_as (v := .bool _) rfl) ?_
      refine k_nil ?_
      refine c_norm ?_
      refine k_ret ?_
      refine fin1r (v := .bool _) rfl rfl ?_
      exact ⟨rfl, H.only⟩
  · rw [same_len (by omega)]
    refine k_in (N := 24) Try.func41 rfl rfl rfl ?_
    refine k_seq ?_
    refine k_rg ?_
    refine s_run rfl rfl (r_as (v := .bool _) rfl) ?_
    refine k_nil ?_
    refine c_norm ?_
    refine k_seq ?_
    refine k_seq ?_
    refine k_rg ?_
    refine s_run rfl rfl (r_mv (v := .pointer _) rfl) ?_
    refine s_call rfl (hL1 _ (HR1.same H.only).ents) (ca24 rfl) ?_
    rintro e W1 ⟨rfl, H'⟩
    refine ⟨_, rfl, ?_⟩
    have H := H.same H'; clear H'
    refine s_run rfl rfl (r_mv (v := .pointer _) rfl) ?_
    refine s_call rfl (hL2 _ (HR2.same H.only).ents) (ca24 rfl) ?_
    rintro e W1 ⟨rfl, H'⟩
    refine ⟨_, rfl, ?_⟩
    have H := H.same H'; clear H'
    refine s_run rfl rfl (r_neqT rfl rfl (by omega)) ?_
    refine k_nil ?_
    refine c_norm ?_
    refine k_t rfl ?_
    refine k_seq ?_
    refine k_rg ?_
    refine s_run rfl rfl (r_as (v := .bool _) rfl) ?_
    refine k_nil ?_
    refine c_norm ?_
    refine k_ret ?_
    refine c_ret ?_
    refine fin1r (v := .bool _) rfl rfl ?_
    exact ⟨rfl, H.only⟩
theorem iAwake (w : World) : Calls Try.prog 40 [].toArray w fun e w' => e = .returned (.bool true) ∧ Only [] w w' := by
  have H := Heap.nil w
  have hS := fun g W hE => iSave g (Nv.load (List.replicate (8 * 1) 0) 1) 1 W hE load8 (fun x hx => by rw [(List.mem_replicate.1 hx).2]; decide) (by omega)
  have hU : Im.U (List.replicate (8 * 1) 0) := fun x hx => by rw [(List.mem_replicate.1 hx).2]; decide
  have hw : By.words (Im.save (List.replicate (8 * 1) 0)) = Im.out (List.replicate (8 * 1) 0) := By.words_bytes _ (Im.out_bd (by simp) hU)
  have hW := fun A c W hz => (cWordsOf A (Im.save (List.replicate (8 * 1) 0)).length c (Im.save (List.replicate (8 * 1) 0)) W hz rfl (By.bytes_bd _) (by rw [Im.save_len]; decide)).mono (fun e w' h => h.vec (by rw [hw]; simp [Im.out, Im.head]))
  rw [hw] at hW
  have ho : Im.out (List.replicate (8 * 1) 0) = [13905993476890996, 8, 8, 0, Im.sum (Im.head (List.replicate (8 * 1) 0))] := rfl
  rw [ho] at hW
  simp only [List.length_cons, List.length_nil, Nat.reduceAdd] at hW
  generalize Im.sum (Im.head (List.replicate (8 * 1) 0)) = sm at *
  refine k_in (N := 28) Try.func40 rfl rfl rfl ?_
  refine k_seq ?_
  refine k_rg ?_
  refine s_run rfl rfl (r_as (v := .bool _) rfl) ?_
  refine k_nil ?_
  refine c_norm ?_
  refine k_seq ?_
  refine k_rg ?_
  refine s_call rfl (nNew 8 _ (by omega)) (ca21 rfl) ?_
  rintro e W1 ⟨g, rfl, hg, H'⟩
  refine ⟨_, rfl, ?_⟩
  have H := H.more (A := [grp _]) (grp_heap H'); clear H'
  refine s_call rfl (hS g _ (H.grp_ents 0 rfl)) (ca48 rfl) ?_
  rintro e W1 ⟨A1, c1, rfl, H'⟩
  refine ⟨_, rfl, ?_⟩
  have H := H.more (A := [_]) H'; clear H'; simp only [List.cons_append, List.nil_append] at H
  refine s_call rfl (hW _ _ _ (H.own_sees 0 rfl)) (ca81 rfl) ?_
  rintro e W1 ⟨b, cb, rfl, hcb, hcm, H'⟩
  refine ⟨_, rfl, ?_⟩
  have H := H.more (A := [_]) H'; clear H'; simp only [List.cons_append, List.nil_append] at H
  refine s_run rfl rfl (r_as (v := .slice _ _ _) rfl) ?_
  refine k_nil ?_
  refine c_norm ?_
  refine k_seq ?_
  refine k_rg ?_
  refine s_run rfl rfl (r_mv (v := .slice _ _ _) rfl) ?_
  refine s_run rfl rfl (r_len rfl Try.underlying25) ?_
  refine s_run rfl rfl (r_eqlT rfl rfl (by omega)) ?_
  refine s_run rfl rfl (r_mv (v := .bool _) rfl) ?_
  refine s_run rfl (g_on 8 (by kernel_rfl) rfl) (r_mv (v := .slice _ _ _) rfl) ?_
  refine s_run rfl (g_on 8 (by kernel_rfl) rfl) (r_ix1 (i := 2) rfl rfl (by omega) (by omega) Try.underlying25 sz22) ?_
  refine s_run rfl (g_on 8 (by kernel_rfl) rfl) (r_lv (z := 8) H 0 rfl rfl rfl ag22) ?_
  refine s_run rfl (g_on 8 (by kernel_rfl) rfl) (r_eqlT rfl rfl (by omega)) ?_
  refine s_run rfl rfl (r_pkT (v := .bool _) rfl rfl) ?_
  refine s_run rfl rfl (r_mv (v := .bool _) rfl) ?_
  refine s_run rfl (g_on 14 (by kernel_rfl) rfl) (r_mv (v := .slice _ _ _) rfl) ?_
  refine s_run rfl (g_on 14 (by kernel_rfl) rfl) (r_ix1 (i := 3) rfl rfl (by omega) (by omega) Try.underlying25 sz22) ?_
  refine s_run rfl (g_on 14 (by kernel_rfl) rfl) (r_lv (z := 0) H 0 rfl rfl rfl ag22) ?_
  refine s_run rfl (g_on 14 (by kernel_rfl) rfl) (r_eqlT rfl rfl (by omega)) ?_
  refine s_run rfl rfl (r_pkT (v := .bool _) rfl rfl) ?_
  refine s_run rfl rfl (r_mv (v := .bool _) rfl) ?_
  refine s_run rfl (g_on 20 (by kernel_rfl) rfl) (r_mv (v := .slice _ _ _) rfl) ?_
  refine s_run rfl (g_on 20 (by kernel_rfl) rfl) (r_ix1 (i := 0) rfl rfl (by omega) (by omega) Try.underlying25 sz22) ?_
  refine s_run rfl (g_on 20 (by kernel_rfl) rfl) (r_lv (z := 13905993476890996) H 0 rfl rfl rfl ag22) ?_
  refine s_run rfl (g_on 20 (by kernel_rfl) rfl) (r_eqlT rfl rfl (by omega)) ?_
  refine s_run rfl rfl (r_pkT (v := .bool _) rfl rfl) ?_
  refine s_run rfl rfl (r_mv (v := .bool _) rfl) ?_
  refine s_run rfl rfl (r_pkT (v := .bool _) rfl rfl) ?_
  refine s_run rfl rfl (r_as (v := .bool _) rfl) ?_
  refine k_nil ?_
  refine c_norm ?_
  refine k_ret ?_
  refine fin1r (v := .bool _) rfl rfl ?_
  exact ⟨rfl, H.only⟩
theorem walk_ImageSame (A : Option Addr) (n c : Nat) (zs : List Int) (B : Option Addr) (n2 c2 : Nat) (ys : List Int) (w : World) (hr : IsRow .u64 w A n c zs) (hr2 : IsRow .u64 w B n2 c2 ys) :
    Calls Try.prog 9 [.slice A n c, .slice B n2 c2].toArray w fun e w' => e = .returned (.bool true) ∧ Below w.heap.size w w' := by
  obtain ⟨hz, lz, hnc, hcm, _⟩ := row_words hr
  obtain ⟨hy, ly, hnc2, hcm2, _⟩ := row_words hr2
  unfold maxLen at hcm hcm2
  have H := Heap.nil w
  by_cases h1 : 300 < n
  · refine k_in (N := 34) Try.func9 rfl rfl rfl ?_
    refine k_seq ?_
    refine k_rg ?_
    refine s_run rfl rfl (r_as (v := .bool _) rfl) ?_
    refine k_nil ?_
    refine c_norm ?_
    refine k_seq ?_
    refine k_seq ?_
    refine k_rg ?_
    refine s_call rfl (iAwake _) (ca40 rfl) ?_
    rintro e W1 ⟨rfl, H'⟩
    refine ⟨_, rfl, ?_⟩
    have H := H.same H'; clear H'
    refine s_run rfl rfl (r_notT rfl) ?_
    refine k_nil ?_
    refine c_norm ?_
    refine k_f rfl ?_
    refine k_skip ?_
    refine c_norm ?_
    refine k_seq ?_
    refine k_seq ?_
    refine k_rg ?_
    refine s_run rfl rfl (r_mv (v := .slice _ _ _) rfl) ?_
    refine s_run rfl rfl (r_len rfl Try.underlying25) ?_
    refine s_run rfl rfl (r_gtrT rfl rfl (by omega)) ?_
    refine s_run rfl rfl (r_mv (v := .bool _) rfl) ?_
    refine s_off rfl (g_off 12 (by kernel_rfl) rfl rfl) ?_
    refine s_off rfl (g_off 12 (by kernel_rfl) rfl rfl) ?_
    refine s_off rfl (g_off 12 (by kernel_rfl) rfl rfl) ?_
    refine s_run rfl rfl (r_pkT (v := .bool _) rfl rfl) ?_
    refine k_nil ?_
    refine c_norm ?_
    refine k_t rfl ?_
    refine k_seq ?_
    refine k_rg ?_
    refine s_run rfl rfl (r_as (v := .bool _) rfl) ?_
    refine k_nil ?_
    refine c_norm ?_
    refine k_ret ?_
    refine c_ret ?_
    refine fin1r (v := .bool _) rfl rfl ?_
    exact ⟨rfl, H.only.below⟩
  by_cases h2 : 300 < n2
  · refine k_in (N := 34) Try.func9 rfl rfl rfl ?_
    refine k_seq ?_
    refine k_rg ?_
    refine s_run rfl rfl (r_as (v := .bool _) rfl) ?_
    refine k_nil ?_
    refine c_norm ?_
    refine k_seq ?_
    refine k_seq ?_
    refine k_rg ?_
    refine s_call rfl (iAwake _) (ca40 rfl) ?_
    rintro e W1 ⟨rfl, H'⟩
    refine ⟨_, rfl, ?_⟩
    have H := H.same H'; clear H'
    refine s_run rfl rfl (r_notT rfl) ?_
    refine k_nil ?_
    refine c_norm ?_
    refine k_f rfl ?_
    refine k_skip ?_
    refine c_norm ?_
    refine k_seq ?_
    refine k_seq ?_
    refine k_rg ?_
    refine s_run rfl rfl (r_mv (v := .slice _ _ _) rfl) ?_
    refine s_run rfl rfl (r_len rfl Try.underlying25) ?_
    refine s_run rfl rfl (r_gtrF rfl rfl (by omega)) ?_
    refine s_run rfl rfl (r_mv (v := .bool _) rfl) ?_
    refine s_run rfl (g_on 12 (by kernel_rfl) rfl) (r_mv (v := .slice _ _ _) rfl) ?_
    refine s_run rfl (g_on 12 (by kernel_rfl) rfl) (r_len rfl Try.underlying25) ?_
    refine s_run rfl (g_on 12 (by kernel_rfl) rfl) (r_gtrT rfl rfl (by omega)) ?_
    refine s_run rfl rfl (r_pkF (v := .bool _) rfl rfl) ?_
    refine k_nil ?_
    refine c_norm ?_
    refine k_t rfl ?_
    refine k_seq ?_
    refine k_rg ?_
    refine s_run rfl rfl (r_as (v := .bool _) rfl) ?_
    refine k_nil ?_
    refine c_norm ?_
    refine k_ret ?_
    refine c_ret ?_
    refine fin1r (v := .bool _) rfl rfl ?_
    exact ⟨rfl, H.only.below⟩
  have hL1 := fun W hz => nLoad A n c (zs.take n) W hz lz (by omega)
  have hL2 := fun W hz => nLoad B n2 c2 (ys.take n2) W hz ly (by omega)
  have hR1 := fun W hz => rLoad A n c (zs.take n) [] W hz lz (by omega) (by simp)
  have hR2 := fun W hz => rLoad B n2 c2 (ys.take n2) [] W hz ly (by omega) (by simp)
  have hm1 : (n + 7) / 8 ≤ 60 := by omega
  have hm2 : (n2 + 7) / 8 ≤ 60 := by omega
  have ho1 : Nv.Ok (Nv.load (zs.take n ++ List.replicate (8 * ((n + 7) / 8) - n) 0) ((n + 7) / 8)) ((n + 7) / 8) := (Nv.Inv.load _ _ (by rw [List.length_append, lz, List.length_replicate]; omega)).ok
  have ho2 : Nv.Ok (Nv.load (ys.take n2 ++ List.replicate (8 * ((n2 + 7) / 8) - n2) 0) ((n2 + 7) / 8)) ((n2 + 7) / 8) := (Nv.Inv.load _ _ (by rw [List.length_append, ly, List.length_replicate]; omega)).ok
  generalize Nv.load (zs.take n ++ List.replicate (8 * ((n + 7) / 8) - n) 0) ((n + 7) / 8) = d1 at *
  generalize Nv.load (ys.take n2 ++ List.replicate (8 * ((n2 + 7) / 8) - n2) 0) ((n2 + 7) / 8) = d2 at *
  generalize (n + 7) / 8 = m1 at *
  generalize (n2 + 7) / 8 = m2 at *
  have hA := fun (s : RefS) (d : Nv.D) (m : Nat) W (hs : RefOk W [] s d m) hm => rAll s.A1 m s.c1 d.last W hs.last hs.ok.hl hm
  have l1 := ho1.hl
  have l2 := ho2.hl
  have hS := fun (A B : Option Addr) (c c2 : Nat) W hx hy => rSame A B (8 * m1) (8 * m2) c c2 d1.last d2.last W hx hy l1 l2 (by omega)
  refine k_in (N := 34) Try.func9 rfl rfl rfl ?_
  refine k_seq ?_
  refine k_rg ?_
  refine s_run rfl rfl (r_as (v := .bool _) rfl) ?_
  refine k_nil ?_
  refine c_norm ?_
  refine k_seq ?_
  refine k_seq ?_
  refine k_rg ?_
  refine s_call rfl (iAwake _) (ca40 rfl) ?_
  rintro e W1 ⟨rfl, H'⟩
  refine ⟨_, rfl, ?_⟩
  have H := H.same H'; clear H'
  refine s_run rfl rfl (r_notT rfl) ?_
  refine k_nil ?_
  refine c_norm ?_
  refine k_f rfl ?_
  refine k_skip ?_
  refine c_norm ?_
  refine k_seq ?_
  refine k_seq ?_
  refine k_rg ?_
  refine s_run rfl rfl (r_mv (v := .slice _ _ _) rfl) ?_
  refine s_run rfl rfl (r_len rfl Try.underlying25) ?_
  refine s_run rfl rfl (r_gtrF rfl rfl (by omega)) ?_
  refine s_run rfl rfl (r_mv (v := .bool _) rfl) ?_
  refine s_run rfl (g_on 12 (by kernel_rfl) rfl) (r_mv (v := .slice _ _ _) rfl) ?_
  refine s_run rfl (g_on 12 (by kernel_rfl) rfl) (r_len rfl Try.underlying25) ?_
  refine s_run rfl (g_on 12 (by kernel_rfl) rfl) (r_gtrF rfl rfl (by omega)) ?_
  refine s_run rfl rfl (r_pkF (v := .bool _) rfl rfl) ?_
  refine k_nil ?_
  refine c_norm ?_
  refine k_f rfl ?_
  refine k_skip ?_
  refine c_norm ?_
  refine k_seq ?_
  refine k_rg ?_
  refine s_run rfl rfl (r_mv (v := .slice _ _ _) rfl) ?_
  refine s_call rfl (hL1 _ (hz.later H.only (by simp))) (ca16 rfl) ?_
  rintro e W1 ⟨g1, rfl, hg1, H'⟩
  refine ⟨_, rfl, ?_⟩
  have H := H.more (A := [grp _]) (grp_heap H'); clear H'; simp only [List.cons_append, List.nil_append] at H
  refine s_run rfl rfl (r_mv (v := .slice _ _ _) rfl) ?_
  refine s_call rfl (hL2 _ (hy.later H.only (by simp))) (ca16 rfl) ?_
  rintro e W1 ⟨g2, rfl, hg2, H'⟩
  refine ⟨_, rfl, ?_⟩
  have H := H.more (A := [grp _]) (grp_heap H'); clear H'; simp only [List.cons_append, List.nil_append] at H
  refine s_run rfl rfl (r_as (v := .pointer _) rfl) ?_
  refine s_run rfl rfl (r_as (v := .pointer _) rfl) ?_
  refine k_nil ?_
  refine c_norm ?_
  refine k_seq ?_
  refine k_rg ?_
  refine s_run rfl rfl (r_mv (v := .pointer _) rfl) ?_
  refine s_run rfl rfl (r_mv (v := .pointer _) rfl) ?_
  refine s_call rfl (iSame g1 g2 d1 d2 m1 m2 _ (H.grp_ents 1 rfl) (H.grp_ents 0 rfl) ho1 ho2 (by omega)) (ca41 rfl) ?_
  rintro e W1 ⟨rfl, H'⟩
  refine ⟨_, rfl, ?_⟩
  have H := H.same H'; clear H'
  refine s_run rfl rfl (r_mv (v := .slice _ _ _) rfl) ?_
  refine s_call rfl (hR1 _ (hz.later H.only (by simp))) (ca44 rfl) ?_
  rintro e W1 ⟨s1, rfl, H', hs1⟩
  refine ⟨_, rfl, ?_⟩
  have H := H.more (A := []) H'; clear H'; simp only [List.nil_append, refE] at H ⊢
  refine s_run rfl rfl (r_fd (fun W => fv55_1 _ _ _ _ _ _ _ _ W) rfl) ?_
  refine s_call rfl (hA s1 d1 m1 _ hs1 (by omega)) (ca43 rfl) ?_
  rintro e W1 ⟨Aa, ba, ca, rfl, hAa, H'⟩
  refine ⟨_, rfl, ?_⟩
  have H := H.more (A := [_]) H'; clear H'; simp only [List.cons_append, List.nil_append] at H
  refine s_run rfl rfl (r_mv (v := .slice _ _ _) rfl) ?_
  refine s_call rfl (hR2 _ (hy.later H.only (by simp))) (ca44 rfl) ?_
  rintro e W1 ⟨s2, rfl, H', hs2⟩
  refine ⟨_, rfl, ?_⟩
  have H := H.more (A := []) H'; clear H'; simp only [List.nil_append, refE] at H ⊢
  refine s_run rfl rfl (r_fd (fun W => fv55_1 _ _ _ _ _ _ _ _ W) rfl) ?_
  refine s_call rfl (hA s2 d2 m2 _ hs2 (by omega)) (ca43 rfl) ?_
  rintro e W1 ⟨Ab, bb, cb, rfl, hAb, H'⟩
  refine ⟨_, rfl, ?_⟩
  have H := H.more (A := [_]) H'; clear H'; simp only [List.cons_append, List.nil_append] at H
  refine s_call rfl (hS _ _ _ _ _ (H.sees (m := 8 * m1) 1 rfl (by simp) hAa (by omega)) (H.sees (m := 8 * m2) 0 rfl (by simp) hAb (by omega))) (ca42 rfl) ?_
  rintro e W1 ⟨rfl, H'⟩
  refine ⟨_, rfl, ?_⟩
  have H := H.same H'; clear H'
  refine s_run rfl rfl (r_beqT rfl rfl rfl Try.underlying4) ?_
  refine s_run rfl rfl (r_as (v := .bool _) rfl) ?_
  refine k_nil ?_
  refine c_norm ?_
  refine k_ret ?_
  refine fin1r (v := .bool _) rfl rfl ?_
  exact ⟨rfl, H.only.below⟩
end Go.Proofs.Ytmekhdclnhhhbaa
end

section
namespace Go.Proofs.Ytmekhdclnhhhbaa.lImageSame
open Go.ChangeShapes Go.WideShapes Go.ChangeAt Go.RowKit
set_option linter.unusedVariables false
theorem own : ownKnob Try.prog.godebug = none := by kernel_rfl
theorem laidOut : laidOutB Try.prog = true := by kernel_rfl
set_option maxRecDepth 100000 in
theorem lifted (os : Os) (started : os.Started) (H : Type) (enc : TypeId × Value → H) :
    ReturnsInHanded {} Try.checked os 9 .any (Rows.imageSameSpec.pre6 enc Try.prog Try.f9 Rows.imageSameRow.domain false) (Rows.imageSameSpec.post enc Try.prog Try.f9 false true false false) := by
  refine returnsInHanded_of_change (C := Try.checked) own started (by kernel_rfl) Try.func9
    (ChangeSpec.witness6 (enc := enc) (C := Try.checked) false ⟨#[], #[.slice none 0 0, .slice none 0 0], []⟩ 8 (by kernel_rfl) (by kernel_rfl) (by kernel_rfl) (by kernel_rfl)) ?_
  intro W base args ds gs before hval0 hW hcnd _
  have hval : ∀ (j : Nat) t v, Try.f9.params[j]? = some t → args[j]? = some v → Value.okWide Try.prog W .any base t v := hval0
  have hW' := hW
  obtain ⟨p, q, hA0, hV, rfl, hfz, hnd⟩ := hW
  have hA : DataW.TrodAll enc Try.prog W 0 (fun _ => true) true Try.f9.params.toList args.toList ds p := hA0
  rw [Try.params9] at hA hval
  obtain ⟨v0, vs0, d0, ds0, p0, q0, hargs, rfl, rfl, h0, r0⟩ := trodAll_cons hA
  obtain ⟨v1, vs1, d1, ds1, p1, q1, rfl, rfl, rfl, h1, r1⟩ := trodAll_cons r0
  obtain ⟨rfl, rfl, rfl⟩ := trodAll_nil r1
  obtain rfl : args = #[v0, v1] := by cases args; simp_all
  obtain ⟨rfl, rfl⟩ := trodVars_none hV
  have k0 := h0
  have lt0 : ∀ x ∈ p0, x.block < W.heap.size := by obtain ⟨m, hm⟩ := k0; exact DataW.trod_lt m _ _ _ hm
  have k1 := h1
  have lt1 : ∀ x ∈ p1, x.block < W.heap.size := by obtain ⟨m, hm⟩ := k1; exact DataW.trod_lt m _ _ _ hm
  obtain ⟨a0, len0, cap0, rfl⟩ := okWide_slice Try.underlying25 (hval 0 25 v0 rfl rfl)
  obtain ⟨z0, w0⟩ := open_row Try.underlying25 Try.underlying22 (by kernel_rfl) h0
  obtain ⟨a1, len1, cap1, rfl⟩ := okWide_slice Try.underlying25 (hval 1 25 v1 rfl rfl)
  obtain ⟨z1, w1⟩ := open_row Try.underlying25 Try.underlying22 (by kernel_rfl) h1
  clear hA0 hval0
  refine (walk_ImageSame a0 len0 cap0 z0 a1 len1 cap1 z1 W w0 w1).mono fun e W' ⟨he, bel⟩ => ?_
  subst he
  exact ⟨_, rfl, _, _, _, [], _, [], hW', trodAll_mk1 (shut_bool Try.underlying4 _), (trodAll_cons_mk (Below.trod laidOut (by kernel_rfl) (of_decide_eq_true (by kernel_rfl)) k0 bel lt0) (trodAll_cons_mk (Below.trod laidOut (by kernel_rfl) (of_decide_eq_true (by kernel_rfl)) k1 bel lt1) trodAll_mk0)), rfl, bel.frame _, fun h => by cases h⟩
theorem over : Rows.imageSameRow.holds Try.pinned (OpenSpec.ofChange Rows.imageSameSpec) :=
  OpenClaim.holds_of_wide 9 Try.f9 rfl rfl rfl rfl rfl rfl rfl ⟨rfl, rfl, rfl, rfl, rfl⟩ rfl rfl rfl rfl rfl (by kernel_rfl) Try.func9 (by kernel_rfl)
    (of_decide_eq_true (by kernel_rfl)) (by unfold Func.isWrapper; first | (rw [if_pos (by decide +kernel)]; kernel_rfl) | (rw [if_neg (by decide +kernel)]; exact ⟨rfl, rfl⟩))
    (fun os started H enc _ => lifted os started H enc)
theorem proved : Rows.ImageSameSaid := over
#print axioms proved
end Go.Proofs.Ytmekhdclnhhhbaa.lImageSame
end
