/- Plain lemmas: the sum bit by bit, and by a table of sixteen. No program in sight. -/
import Derived.WalkKit
import Derived.Laws.BitsAllLaws
namespace Go.Proofs.Ytgcjagffoeoldaa.Cr
set_option linter.unusedVariables false
open Go Go.RowKit
def step (s : Nat) : Nat := if s % 2 = 1 then (s / 2) ^^^ 3988292384 else s / 2
def steps : Nat → Nat → Nat
  | 0, s => s
  | n + 1, s => steps n (step s)
theorem div_xor (a b k : Nat) : (a ^^^ b) / 2 ^ k = a / 2 ^ k ^^^ b / 2 ^ k := by
  rw [← Nat.shiftRight_eq_div_pow, ← Nat.shiftRight_eq_div_pow, ← Nat.shiftRight_eq_div_pow, Nat.shiftRight_xor_distrib]
theorem mod2_bits : ∀ a < 2, ∀ b < 2, (a ^^^ b) % 2 = (a + b) % 2 := by decide
theorem mod2_xor (a b : Nat) : (a ^^^ b) % 2 = (a % 2 + b % 2) % 2 := by
  have e : (a ^^^ b) % 2 ^ 1 = a % 2 ^ 1 ^^^ b % 2 ^ 1 := by
    apply Nat.eq_of_testBit_eq
    intro i
    simp only [Nat.testBit_mod_two_pow, Nat.testBit_xor]
    by_cases h : i < 1 <;> simp [h]
  have h2 := mod2_bits (a % 2) (by omega) (b % 2) (by omega)
  rw [← h2, show (2 : Nat) = 2 ^ 1 from rfl, ← e, Nat.mod_mod]
theorem xor4 (a b c d : Nat) : (a ^^^ b) ^^^ (c ^^^ d) = (a ^^^ c) ^^^ (b ^^^ d) := by
  rw [Nat.xor_assoc, Nat.xor_assoc]; congr 1; rw [← Nat.xor_assoc, Nat.xor_comm b c, Nat.xor_assoc]
theorem step_xor (a b : Nat) : step (a ^^^ b) = step a ^^^ step b := by
  unfold step
  rw [mod2_xor, show (a ^^^ b) / 2 = a / 2 ^^^ b / 2 from div_xor a b 1]
  rcases Nat.mod_two_eq_zero_or_one a with ha | ha <;> rcases Nat.mod_two_eq_zero_or_one b with hb | hb <;> simp only [ha, hb] <;> simp
  · rw [Nat.xor_assoc]
  · rw [Nat.xor_assoc, Nat.xor_comm (b / 2), ← Nat.xor_assoc]
  · rw [xor4, Nat.xor_self, Nat.xor_zero]
theorem steps_xor (n : Nat) : ∀ a b, steps n (a ^^^ b) = steps n a ^^^ steps n b := by
  induction n with
  | zero => intro a b; rfl
  | succ n ih => intro a b; rw [steps, step_xor, ih]; rfl
theorem steps_add (m n : Nat) : ∀ s, steps (m + n) s = steps n (steps m s) := by
  induction m with
  | zero => intro s; simp [steps]
  | succ m ih => intro s; rw [show m + 1 + n = (m + n) + 1 from by omega, steps, ih]; rfl
theorem steps_succ (n s : Nat) : steps (n + 1) s = step (steps n s) := by rw [steps_add n 1]; rfl
theorem step_even (q : Nat) : step (2 * q) = q := by unfold step; rw [if_neg (by omega)]; omega
theorem steps_16 (q : Nat) : steps 4 (16 * q) = q := by
  show step (step (step (step (16 * q)))) = q
  rw [show 16 * q = 2 * (8 * q) from by omega, step_even, show 8 * q = 2 * (4 * q) from by omega, step_even, show 4 * q = 2 * (2 * q) from by omega, step_even, step_even]
theorem split16 (s : Nat) : s = (16 * (s / 16)) ^^^ (s % 16) := by
  have h : 2 ^ 4 * (s / 16) + s % 16 = 2 ^ 4 * (s / 16) ||| s % 16 := Nat.two_pow_add_eq_or_of_lt (by omega) _
  have hx : 2 ^ 4 * (s / 16) ^^^ s % 16 = 2 ^ 4 * (s / 16) + s % 16 := by
    apply Nat.eq_of_testBit_eq
    intro i
    rw [h, Nat.testBit_xor, Nat.testBit_or, Nat.testBit_two_pow_mul]
    by_cases hi : 4 ≤ i
    · have : (s % 16).testBit i = false := Nat.testBit_lt_two_pow (Nat.lt_of_lt_of_le (show s % 16 < 2 ^ 4 by omega) (Nat.pow_le_pow_right (by decide) hi))
      rw [this]; simp
    · simp [hi]
  rw [show 16 * (s / 16) = 2 ^ 4 * (s / 16) from rfl, hx]
  omega
def tab (i : Nat) : Nat := steps 4 i
theorem steps4 (s : Nat) : steps 4 s = tab (s % 16) ^^^ (s / 16) := by
  conv => lhs; rw [split16 s]
  rw [steps_xor, steps_16, Nat.xor_comm]; rfl
theorem step_lt (s : Nat) (h : s < 4294967296) : step s < 4294967296 := by
  unfold step
  split
  · exact Nat.xor_lt_two_pow (n := 32) (by omega) (by omega)
  · omega
theorem steps_lt (n : Nat) : ∀ s, s < 4294967296 → steps n s < 4294967296 := by
  induction n with
  | zero => intro s h; exact h
  | succ n ih => intro s h; exact ih _ (step_lt s h)
/-- the code's two steps of a byte -/
theorem byte_steps (s b : Nat) (hb : b < 256) :
    tab ((tab ((s ^^^ b) % 16) ^^^ s / 16 ^^^ b / 16) % 16) ^^^ (tab ((s ^^^ b) % 16) ^^^ s / 16) / 16 = steps 8 (s ^^^ b) := by
  rw [show (8 : Nat) = 4 + 4 from rfl, steps_add, steps4 (s ^^^ b)]
  have e : (s ^^^ b) / 16 = s / 16 ^^^ b / 16 := div_xor s b 4
  rw [e, ← Nat.xor_assoc, steps4]
  have e2 : (tab ((s ^^^ b) % 16) ^^^ s / 16 ^^^ b / 16) / 16 = (tab ((s ^^^ b) % 16) ^^^ s / 16) / 16 ^^^ b / 16 / 16 := div_xor _ _ 4
  rw [e2, show b / 16 / 16 = 0 from by omega, Nat.xor_zero]
/-! the sums, as integers -/
def tabI (i : Int) : Int := (tab (i % 16).toNat : Nat)
theorem tab_lt (i : Nat) (h : i < 16) : tab i < 4294967296 := steps_lt 4 i (by omega)
theorem tabI_bd (i : Int) : 0 ≤ tabI i ∧ tabI i ≤ 4294967295 := by
  have := tab_lt (i % 16).toNat (by omega)
  unfold tabI; omega
def byte (s b : Int) : Int := (steps 8 (s.toNat ^^^ b.toNat) : Nat)
theorem byte_bd (s b : Int) (h0 : 0 ≤ s) (h1 : s ≤ 4294967295) (h2 : 0 ≤ b) (h3 : b ≤ 255) : 0 ≤ byte s b ∧ byte s b ≤ 4294967295 := by
  have hx : s.toNat ^^^ b.toNat < 4294967296 := Nat.xor_lt_two_pow (n := 32) (by omega) (by omega)
  have := steps_lt 8 _ hx
  unfold byte; omega
def run (s : Int) (l : List Int) : Int := l.foldl byte s
theorem run_snoc (s : Int) (l : List Int) (b : Int) : run s (l ++ [b]) = byte (run s l) b := by unfold run; rw [List.foldl_append]; rfl
theorem run_append (s : Int) (l m : List Int) : run s (l ++ m) = run (run s l) m := by unfold run; rw [List.foldl_append]
theorem run_bd (l : List Int) : ∀ s : Int, 0 ≤ s → s ≤ 4294967295 → (∀ b ∈ l, 0 ≤ b ∧ b ≤ 255) → 0 ≤ run s l ∧ run s l ≤ 4294967295 := by
  induction l with
  | nil => intro s h0 h1 _; exact ⟨h0, h1⟩
  | cons b l ih =>
    intro s h0 h1 hb
    have hb0 := hb b (by simp)
    have h2 := byte_bd s b h0 h1 hb0.1 hb0.2
    exact ih _ h2.1 h2.2 (fun c hc => hb c (by simp [hc]))
def more (s : Int) (l : List Int) : Int := 4294967295 - run (4294967295 - s) l
theorem more_bd (s : Int) (l : List Int) (h0 : 0 ≤ s) (h1 : s ≤ 4294967295) (hb : ∀ b ∈ l, 0 ≤ b ∧ b ≤ 255) : 0 ≤ more s l ∧ more s l ≤ 4294967295 := by
  have := run_bd l (4294967295 - s) (by omega) (by omega) hb
  unfold more; omega
theorem more_append (s : Int) (l m : List Int) : more (more s l) m = more s (l ++ m) := by
  unfold more; rw [run_append]; congr 2; omega
theorem wrap8 (s : Int) : IntKind.u8.wrap s = s % 256 := by simp [IntKind.wrap, IntKind.bits, IntKind.signed]
theorem low_xor (a b : Nat) : (a % 256 ^^^ b) % 16 = (a ^^^ b) % 16 := by
  apply Nat.eq_of_testBit_eq
  intro i
  rw [show (16 : Nat) = 2 ^ 4 from rfl, show (256 : Nat) = 2 ^ 8 from rfl, Nat.testBit_mod_two_pow, Nat.testBit_mod_two_pow, Nat.testBit_xor, Nat.testBit_xor, Nat.testBit_mod_two_pow]
  by_cases hi : i < 4
  · have : i < 8 := by omega
    simp [this]
  · simp [hi]
theorem half_code (s b : Int) (h0 : 0 ≤ s) (h1 : s ≤ 4294967295) (h2 : 0 ≤ b) (h3 : b ≤ 255) :
    bits .xor .u32 (tabI (bits .xor .u8 (s % 256) b)) (s / 16) = ((tab ((s.toNat ^^^ b.toNat) % 16) ^^^ s.toNat / 16 : Nat) : Int) ∧
    0 ≤ bits .xor .u8 (s % 256) b ∧ bits .xor .u8 (s % 256) b ≤ 255 := by
  obtain ⟨S, rfl⟩ := Int.eq_ofNat_of_zero_le h0
  obtain ⟨B, rfl⟩ := Int.eq_ofNat_of_zero_le h2
  have e1 : (S : Int) % 256 = ((S % 256 : Nat) : Int) := by omega
  rw [e1, u8_xor_nat _ _ (by omega) (by omega)]
  have hlt : S % 256 ^^^ B < 256 := Nat.xor_lt_two_pow (n := 8) (by omega) (by omega)
  refine ⟨?_, by omega, by omega⟩
  have e2 : tabI ((S % 256 ^^^ B : Nat) : Int) = ((tab ((S ^^^ B) % 16) : Nat) : Int) := by
    unfold tabI
    rw [show (((S % 256 ^^^ B : Nat) : Int) % 16).toNat = (S % 256 ^^^ B) % 16 from by omega, low_xor]
  rw [e2, show ((S : Int) / 16) = ((S / 16 : Nat) : Int) from by omega, u32_xor_nat _ _ (tab_lt _ (by omega)) (by omega)]
  rfl
theorem byte_code (s b s1 : Int) (h0 : 0 ≤ s) (h1 : s ≤ 4294967295) (h2 : 0 ≤ b) (h3 : b ≤ 255) (e1 : bits .xor .u32 (tabI (bits .xor .u8 (s % 256) b)) (s / 16) = s1) :
    bits .xor .u32 (tabI (bits .xor .u8 (s1 % 256) (b / 16))) (s1 / 16) = byte s b := by
  have hh := half_code s b h0 h1 h2 h3
  rw [hh.1] at e1
  have hs1 : tab ((s.toNat ^^^ b.toNat) % 16) ^^^ s.toNat / 16 < 4294967296 := Nat.xor_lt_two_pow (n := 32) (tab_lt _ (by omega)) (by omega)
  have h4 := half_code s1 (b / 16) (by omega) (by omega) (by omega) (by omega)
  rw [h4.1]
  unfold byte
  rw [← byte_steps _ _ (by omega), ← e1, show (b / 16).toNat = b.toNat / 16 from by omega, Int.toNat_natCast]
def stepI (s : Int) (n : Nat) : Int := (steps n s.toNat : Nat)
theorem stepI_bd (s : Int) (n : Nat) (h0 : 0 ≤ s) (h1 : s ≤ 4294967295) : 0 ≤ stepI s n ∧ stepI s n ≤ 4294967295 := by
  have := steps_lt n s.toNat (by omega)
  unfold stepI; omega
theorem stepI_zero (s : Int) (h0 : 0 ≤ s) : stepI s 0 = s := by unfold stepI steps; omega
theorem stepI_odd (s : Int) (n : Nat) (h0 : 0 ≤ s) (h1 : s ≤ 4294967295) (h : stepI s n % 2 = 1) : bits .xor .u32 (stepI s n / 2) 3988292384 = stepI s (n + 1) := by
  have := steps_lt n s.toNat (by omega)
  unfold stepI at *
  rw [steps_succ]
  generalize steps n s.toNat = r at *
  have e : ((r : Int) / 2) = ((r / 2 : Nat) : Int) := by omega
  have e2 := u32_xor_nat (r / 2) 3988292384 (by omega) (by decide)
  unfold step
  rw [if_pos (by omega), e, ← e2]; rfl
theorem stepI_even (s : Int) (n : Nat) (h0 : 0 ≤ s) (h1 : s ≤ 4294967295) (h : ¬ stepI s n % 2 = 1) : stepI s n / 2 = stepI s (n + 1) := by
  unfold stepI at *
  rw [steps_succ]
  generalize steps n s.toNat = r at *
  unfold step
  rw [if_neg (by omega)]; omega
theorem xor_byte (s b : Int) (h0 : 0 ≤ s) (h1 : s ≤ 4294967295) (h2 : 0 ≤ b) (h3 : b ≤ 255) : 0 ≤ bits .xor .u32 s b ∧ bits .xor .u32 s b ≤ 4294967295 ∧ stepI (bits .xor .u32 s b) 8 = byte s b := by
  obtain ⟨S, rfl⟩ := Int.eq_ofNat_of_zero_le h0
  obtain ⟨B, rfl⟩ := Int.eq_ofNat_of_zero_le h2
  have hlt : S ^^^ B < 4294967296 := Nat.xor_lt_two_pow (n := 32) (by omega) (by omega)
  rw [u32_xor_nat _ _ (by omega) (by omega)]
  refine ⟨by omega, by omega, ?_⟩
  unfold stepI byte; simp only [Int.toNat_natCast]
theorem half_bd (s b s1 : Int) (h0 : 0 ≤ s) (h1 : s ≤ 4294967295) (h2 : 0 ≤ b) (h3 : b ≤ 255) (e1 : bits .xor .u32 (tabI (bits .xor .u8 (s % 256) b)) (s / 16) = s1) : 0 ≤ s1 ∧ s1 ≤ 4294967295 := by
  have hh := half_code s b h0 h1 h2 h3
  rw [hh.1] at e1
  have hs1 : tab ((s.toNat ^^^ b.toNat) % 16) ^^^ s.toNat / 16 < 4294967296 := Nat.xor_lt_two_pow (n := 32) (tab_lt _ (by omega)) (by omega)
  omega
theorem not_code (s : Int) (h0 : 0 ≤ s) (h1 : s ≤ 4294967295) : bits .xor .u32 IntKind.u32.max s = 4294967295 - s := by
  obtain ⟨S, rfl⟩ := Int.eq_ofNat_of_zero_le h0
  have e : IntKind.u32.max = ((4294967295 : Nat) : Int) := by decide
  rw [e, u32_xor_nat _ _ (by decide) (by omega)]
  have h : 4294967295 ^^^ S = 2 ^ 32 - (S + 1) := by
    apply Nat.eq_of_testBit_eq
    intro i
    rw [Nat.testBit_xor, Nat.testBit_two_pow_sub_succ (by omega), show (4294967295 : Nat) = 2 ^ 32 - 1 from rfl, Nat.testBit_two_pow_sub_one]
    by_cases hi : i < 32
    · simp [hi]
    · have : S.testBit i = false := Nat.testBit_lt_two_pow (Nat.lt_of_lt_of_le (show S < 2 ^ 32 by omega) (Nat.pow_le_pow_right (by decide) (by omega)))
      rw [this]; simp [hi]
  rw [h]; omega
theorem more_code (s : Int) (l : List Int) (h0 : 0 ≤ s) (h1 : s ≤ 4294967295) (hb : ∀ b ∈ l, 0 ≤ b ∧ b ≤ 255) : bits .xor .u32 IntKind.u32.max (run (4294967295 - s) l) = more s l := by
  have := run_bd l (4294967295 - s) (by omega) (by omega) hb
  rw [not_code _ this.1 this.2]; rfl
end Go.Proofs.Ytgcjagffoeoldaa.Cr
