/- Plain lemmas: ways, their numbers, Gray ways, spread numbers. No program in sight. -/
import Derived.Test.YtgcjagffoeoldaaCom
namespace Go.Proofs.Ytgcjagffoeoldaa.Xp
set_option linter.unusedVariables false
open Go Go.RowKit
/-- so many ways of so many lines, at most 2^40 -/
def wy (c : Int) : Nat → Int
  | 0 => 1
  | k + 1 => if 1099511627776 / c < wy c k then 1099511627776 else wy c k * c
theorem wy_zero (c : Int) : wy c 0 = 1 := rfl
theorem wy_out (c : Int) (k : Nat) (h : 1099511627776 / c < wy c k) : wy c (k + 1) = 1099511627776 := by rw [wy, if_pos h]
theorem wy_in (c : Int) (k : Nat) (h : ¬ 1099511627776 / c < wy c k) : wy c (k + 1) = wy c k * c := by rw [wy, if_neg h]
theorem wy_bd (c : Int) (h : 1 ≤ c) (k : Nat) : 1 ≤ wy c k ∧ wy c k ≤ 1099511627776 := by
  induction k with
  | zero => simp [wy]
  | succ k ih =>
    by_cases hc : 1099511627776 / c < wy c k
    · rw [wy_out c k hc]; omega
    · rw [wy_in c k hc]
      have h1 : wy c k ≤ 1099511627776 / c := by omega
      have h2 := (Int.le_ediv_iff_mul_le (by omega)).1 h1
      have h3 : 1 * 1 ≤ wy c k * c := Int.mul_le_mul ih.1 h (by omega) (by omega)
      omega
theorem wy_one (k : Nat) : wy 1 k = 1 := by
  induction k with
  | zero => rfl
  | succ k ih => rw [wy_in 1 k (by rw [ih]; omega), ih]; rfl
theorem wy_top (c : Int) (h : 2 ≤ c) (k m : Nat) (hk : wy c k = 1099511627776) (hm : k ≤ m) : wy c m = 1099511627776 := by
  induction m with
  | zero => obtain rfl : k = 0 := by omega
            exact hk
  | succ m ih =>
    rcases Nat.lt_or_ge m k with h1 | h1
    · obtain rfl : k = m + 1 := by omega
      exact hk
    · apply wy_out
      rw [ih h1]
      exact Int.ediv_lt_of_lt_mul (by omega) (by omega)
theorem wy_ge (c : Int) (h : 2 ≤ c) (k : Nat) (hk : k ≤ 40) : (2 ^ k : Int) ≤ wy c k ∨ wy c k = 1099511627776 := by
  induction k with
  | zero => left; simp [wy]
  | succ k ih =>
    rcases ih (by omega) with h1 | h1
    · by_cases hc : 1099511627776 / c < wy c k
      · right; exact wy_out c k hc
      · left
        rw [wy_in c k hc, Int.pow_succ]
        exact Int.mul_le_mul h1 h (by omega) (by have := wy_bd c (by omega) k; omega)
    · right; exact wy_top c h k (k + 1) h1 (by omega)
theorem wy_40 (c : Int) (h : 2 ≤ c) : wy c 40 = 1099511627776 := by
  have hb := wy_bd c (by omega) 40
  rcases wy_ge c h 40 (by omega) with h1 | h1
  · have : (2 ^ 40 : Int) = 1099511627776 := by decide
    omega
  · exact h1
theorem wy_41 (c : Int) (h : 1 ≤ c) (m : Nat) (hm : 41 ≤ m) : wy c 41 = wy c m := by
  by_cases hc : c = 1
  · subst hc; rw [wy_one, wy_one]
  · rw [wy_top c (by omega) 40 41 (wy_40 c (by omega)) (by omega), wy_top c (by omega) 40 m (wy_40 c (by omega)) (by omega)]
def ways (l c : Int) : Int := if l < 0 ∨ c < 1 then 0 else wy c l.toNat
theorem ways_out (l c : Int) (h : l < 0 ∨ c < 1) : ways l c = 0 := by unfold ways; rw [if_pos h]
theorem ways_in (l c : Int) (h : 0 ≤ l) (h2 : 1 ≤ c) : ways l c = wy c l.toNat := by unfold ways; rw [if_neg (by omega)]
/-- k behind so many digits -/
def kd (c k : Int) : Nat → Int
  | 0 => k
  | i + 1 => kd c k i / c
theorem kd_zero (c k : Int) : kd c k 0 = k := rfl
theorem kd_succ (c k : Int) (i : Nat) : kd c k (i + 1) = kd c k i / c := rfl
theorem kd_bd (c k : Int) (h : 1 ≤ c) (hk : 0 ≤ k) (i : Nat) : 0 ≤ kd c k i ∧ kd c k i ≤ k := by
  induction i with
  | zero => simp [kd]; omega
  | succ i ih =>
    rw [kd_succ]
    exact ⟨Int.ediv_nonneg ih.1 (by omega), Int.le_trans (Int.ediv_le_self _ ih.1) ih.2⟩
def dig (c k : Int) (i : Nat) : Int := kd c k i % c
theorem dig_bd (c k : Int) (h : 1 ≤ c) (i : Nat) : 0 ≤ dig c k i ∧ dig c k i < c := ⟨Int.emod_nonneg _ (by omega), Int.emod_lt_of_pos _ (by omega)⟩
def digs (c k : Int) (n : Nat) : List Int := (List.range n).map (dig c k)
theorem digs_len (c k : Int) (n : Nat) : (digs c k n).length = n := by simp [digs]
theorem digs_succ (c k : Int) (n : Nat) : digs c k (n + 1) = digs c k n ++ [dig c k n] := by simp [digs, List.range_succ]
theorem digs_bd (c k : Int) (h : 1 ≤ c) (h2 : c ≤ 256) (n : Nat) : ∀ d ∈ digs c k n, 0 ≤ d ∧ d ≤ 255 := by
  intro d hd
  obtain ⟨i, _, rfl⟩ := List.mem_map.1 hd
  have := dig_bd c k h i
  omega
def okC (l c k : Int) : Prop := 0 ≤ l ∧ l ≤ 65536 ∧ 1 ≤ c ∧ c ≤ 256 ∧ 0 ≤ k
instance (l c k : Int) : Decidable (okC l c k) := by unfold okC; infer_instance
def choice (l c k : Int) : List Int := if okC l c k then digs c k l.toNat else []
theorem choice_out (l c k : Int) (h : ¬ okC l c k) : choice l c k = [] := by unfold choice; rw [if_neg h]
theorem choice_in (l c k : Int) (h : okC l c k) : choice l c k = digs c k l.toNat := by unfold choice; rw [if_pos h]
theorem choice_bd (l c k : Int) : ∀ d ∈ choice l c k, 0 ≤ d ∧ d ≤ 255 := by
  by_cases h : okC l c k
  · rw [choice_in l c k h]; exact digs_bd c k h.2.2.1 h.2.2.2.1 _
  · rw [choice_out l c k h]; simp
theorem choice_len (l c k : Int) (h : okC l c k) : (choice l c k).length = l.toNat := by rw [choice_in l c k h, digs_len]
/-- a list that is filled from its head on -/
theorem set_fill {α : Type} (xs : List α) (z x : α) (n i : Nat) (hx : xs.length = i) (h : i < n) : (xs ++ List.replicate (n - i) z).set i x = (xs ++ [x]) ++ List.replicate (n - (i + 1)) z := by
  subst hx
  rw [List.set_append_right _ _ (Nat.le_refl _), Nat.sub_self]
  obtain ⟨m, hm⟩ : ∃ m, n - xs.length = m + 1 := ⟨n - xs.length - 1, by omega⟩
  rw [hm, List.replicate_succ, List.set_cons_zero, show n - (xs.length + 1) = m from by omega]
  simp
theorem fill_get {α : Type} (xs : List α) (z : α) (n i : Nat) (hx : xs.length = i) (h : i < n) : (xs ++ List.replicate (n - i) z)[i]? = some z := by
  subst hx
  rw [List.getElem?_append_right (Nat.le_refl _), Nat.sub_self, List.getElem?_replicate, if_pos (by omega)]
/-- the number of digits, the lowest first -/
def nval (c : Int) : List Int → Int
  | [] => 0
  | d :: l => d + c * nval c l
def okD (c : Int) (l : List Int) : Prop := ∀ d ∈ l, 0 ≤ d ∧ d < c
theorem nval_nonneg (c : Int) (hc : 0 ≤ c) (l : List Int) (h : ∀ d ∈ l, 0 ≤ d) : 0 ≤ nval c l := by
  induction l with
  | nil => simp [nval]
  | cons d l ih =>
    have h1 := h d (by simp)
    have h2 := ih (fun x hx => h x (by simp [hx]))
    have h3 : 0 ≤ c * nval c l := Int.mul_nonneg hc h2
    simp only [nval]; omega
theorem nval_append (c : Int) (a b : List Int) : nval c (a ++ b) = nval c a + c ^ a.length * nval c b := by
  induction a with
  | nil => simp [nval]
  | cons d a ih =>
    rw [List.cons_append, nval, ih, nval, List.length_cons, Int.pow_succ, Int.mul_add, ← Int.mul_assoc, Int.mul_comm c (c ^ a.length), Int.add_assoc]
theorem nval_snoc (c : Int) (a : List Int) (d : Int) : nval c (a ++ [d]) = nval c a + d * c ^ a.length := by
  rw [nval_append]; simp [nval, Int.mul_comm]
/-- the digits of a number are its own -/
theorem kd_nval (c : Int) (l : List Int) (h : okD c l) : ∀ (i : Nat), kd c (nval c l) i = nval c (l.drop i) := by
  have step : ∀ (l : List Int), okD c l → nval c l / c = nval c (l.drop 1) := by
    intro l hl
    match l with
    | [] => simp [nval]
    | d :: l =>
      have := hl d (by simp)
      simp only [nval, List.drop_succ_cons, List.drop_zero]
      rw [Int.add_mul_ediv_left _ _ (by omega), Int.ediv_eq_zero_of_lt this.1 this.2]; omega
  intro i
  induction i with
  | zero => simp [kd]
  | succ i ih =>
    rw [kd_succ, ih, step _ (fun d hd => h d (List.mem_of_mem_drop hd)), List.drop_drop]
theorem digs_nval (c : Int) (l : List Int) (h : okD c l) : digs c (nval c l) l.length = l := by
  apply List.ext_getElem
  · rw [digs_len]
  · intro i h1 h2
    simp only [digs, List.getElem_map, List.getElem_range, dig]
    rw [kd_nval c l h i, List.drop_eq_getElem_cons h2]
    have := h l[i] (List.getElem_mem h2)
    simp only [nval]
    rw [Int.add_mul_emod_self_left, Int.emod_eq_of_lt this.1 this.2]
/-- the number that the page says; -1: none -/
def cOk (c : Int) : Prop := 1 ≤ c ∧ c ≤ 256
instance (c : Int) : Decidable (cOk c) := by unfold cOk; infer_instance
instance (c : Int) (l : List Int) : Decidable (okD c l) := by unfold okD; infer_instance
def numOk (c : Int) (l : List Int) : Prop := cOk c ∧ okD c l ∧ nval c l ≤ 1099511627776
instance (c : Int) (l : List Int) : Decidable (numOk c l) := by unfold numOk; infer_instance
def number (c : Int) (l : List Int) : Int := if numOk c l then nval c l else -1
theorem number_in (c : Int) (l : List Int) (h : numOk c l) : number c l = nval c l := by unfold number; rw [if_pos h]
theorem number_out (c : Int) (l : List Int) (h : ¬ numOk c l) : number c l = -1 := by unfold number; rw [if_neg h]
def numB (c : Int) (l : List Int) : Bool := decide (numOk c l)
theorem numB_in (c : Int) (l : List Int) (h : numOk c l) : numB c l = true := by unfold numB; simpa using h
theorem numB_out (c : Int) (l : List Int) (h : ¬ numOk c l) : numB c l = false := by unfold numB; simpa using h
/-- from the top down -/
theorem numOk_drop (c : Int) (l : List Int) (i : Nat) (h : numOk c l) : numOk c (l.drop i) := by
  obtain ⟨h1, h2, h3⟩ := h
  refine ⟨h1, fun d hd => h2 d (List.mem_of_mem_drop hd), ?_⟩
  have e := nval_append c (l.take i) (l.drop i)
  rw [List.take_append_drop] at e
  have p : (1 : Int) ≤ c ^ (l.take i).length := by have := Int.pow_pos (n := c) (m := (l.take i).length) (by have := h1.1; omega); omega
  have q1 := nval_nonneg c (by have := h1.1; omega) (l.take i) (fun d hd => (h2 d (List.mem_of_mem_take hd)).1)
  have q2 := nval_nonneg c (by have := h1.1; omega) (l.drop i) (fun d hd => (h2 d (List.mem_of_mem_drop hd)).1)
  have q3 : 1 * nval c (l.drop i) ≤ c ^ (l.take i).length * nval c (l.drop i) := Int.mul_le_mul_of_nonneg_right p q2
  omega
theorem fit_iff (c n d : Int) (hc : 1 ≤ c) : n ≤ (1099511627776 - d) / c ↔ d + c * n ≤ 1099511627776 := by
  rw [Int.le_ediv_iff_mul_le (by omega), Int.mul_comm]; omega
/-- the place of a digit, as the reference has it -/
def pl (c : Int) : Nat → Int
  | 0 => 1
  | i + 1 => if pl c i ≤ 1099511627776 then pl c i * c else pl c i
theorem pl_zero (c : Int) : pl c 0 = 1 := rfl
theorem pl_in (c : Int) (i : Nat) (h : pl c i ≤ 1099511627776) : pl c (i + 1) = pl c i * c := by rw [pl, if_pos h]
theorem pl_out (c : Int) (i : Nat) (h : ¬ pl c i ≤ 1099511627776) : pl c (i + 1) = pl c i := by rw [pl, if_neg h]
theorem pl_spec (c : Int) (h : 1 ≤ c) (h2 : c ≤ 256) (i : Nat) : 1 ≤ pl c i ∧ pl c i ≤ 281474976710656 ∧ pl c i ≤ c ^ i ∧ (pl c i ≤ 1099511627776 → pl c i = c ^ i) := by
  induction i with
  | zero => simp [pl]
  | succ i ih =>
    obtain ⟨a, b, g, e⟩ := ih
    by_cases hp : pl c i ≤ 1099511627776
    · rw [pl_in c i hp, Int.pow_succ, e hp]
      rw [e hp] at a hp
      have u : c ^ i * c ≤ 1099511627776 * 256 := Int.mul_le_mul hp h2 (by omega) (by omega)
      have v : 1 * 1 ≤ c ^ i * c := Int.mul_le_mul a h (by omega) (by omega)
      exact ⟨by omega, by omega, Int.le_refl _, fun _ => rfl⟩
    · rw [pl_out c i hp, Int.pow_succ]
      have v : c ^ i * 1 ≤ c ^ i * c := Int.mul_le_mul_of_nonneg_left h (by omega)
      exact ⟨by omega, by omega, by omega, fun h => absurd h hp⟩
/-- bit i of the Gray code of k -/
def gb (k i : Nat) : Bool := Nat.testBit k i ^^ Nat.testBit k (i + 1)
/-- in how many of n bits two codes differ -/
def gd (k m : Nat) : Nat → Nat
  | 0 => 0
  | n + 1 => gd k m n + if gb k n = gb m n then 0 else 1
theorem gd_zero (k m : Nat) : gd k m 0 = 0 := rfl
theorem gd_succ (k m n : Nat) : gd k m (n + 1) = gd k m n + if gb k n = gb m n then 0 else 1 := rfl
theorem gd_le (k m n : Nat) : gd k m n ≤ n := by
  induction n with
  | zero => simp [gd]
  | succ n ih => rw [gd_succ]; split <;> omega
theorem gb_half (k i : Nat) : gb k (i + 1) = gb (k / 2) i := by
  unfold gb
  rw [Nat.testBit_succ, Nat.testBit_succ]
theorem gd_front (k m n : Nat) : gd k m (n + 1) = (if gb k 0 = gb m 0 then 0 else 1) + gd (k / 2) (m / 2) n := by
  induction n with
  | zero => simp [gd]
  | succ n ih => rw [gd_succ, ih, gd_succ, gb_half, gb_half]; omega
theorem gd_self (k n : Nat) : gd k k n = 0 := by
  induction n with
  | zero => rfl
  | succ n ih => rw [gd_succ, ih]; simp
theorem gb_zero (k : Nat) : gb k 0 = ((k % 2 == 1) ^^ (k / 2 % 2 == 1)) := by
  unfold gb
  rw [Nat.testBit_zero, Nat.testBit_succ, Nat.testBit_zero]
  congr 1 <;> (rw [Bool.eq_iff_iff]; simp)
theorem gd_next (n : Nat) : ∀ k : Nat, gd k (k + 1) n ≤ 1 ∧ (k + 1 < 2 ^ n → gd k (k + 1) n = 1) := by
  induction n with
  | zero => intro k; simp [gd]
  | succ n ih =>
    intro k
    rw [gd_front, gb_zero, gb_zero]
    rcases Nat.mod_two_eq_zero_or_one k with h | h
    · have e : (k + 1) / 2 = k / 2 := by omega
      have e2 : (k + 1) % 2 = 1 := by omega
      rw [e, gd_self, h, e2]
      generalize (k / 2 % 2 == 1) = b
      cases b <;> simp
    · have e : (k + 1) / 2 = k / 2 + 1 := by omega
      have e2 : (k + 1) % 2 = 0 := by omega
      obtain ⟨i1, i2⟩ := ih (k / 2)
      rw [e, h, e2]
      have hb : (((1 : Nat) == 1) ^^ (k / 2 % 2 == 1)) = (((0 : Nat) == 1) ^^ ((k / 2 + 1) % 2 == 1)) := by
        rcases Nat.mod_two_eq_zero_or_one (k / 2) with g | g
        · rw [g, show (k / 2 + 1) % 2 = 1 from by omega]; rfl
        · rw [g, show (k / 2 + 1) % 2 = 0 from by omega]; rfl
      rw [if_pos hb, Nat.zero_add]
      refine ⟨i1, fun hk => i2 ?_⟩
      rw [Nat.pow_succ] at hk
      omega
theorem gd_same (n : Nat) : ∀ k m : Nat, k < 2 ^ n → m < 2 ^ n → (gd k m n = 0 ↔ k = m) := by
  intro k m hk hm
  constructor
  · intro h
    have hb : ∀ i, i < n → gb k i = gb m i := by
      intro i hi
      have hmono : ∀ a b, a ≤ b → gd k m a ≤ gd k m b := by
        intro a b hab
        induction b with
        | zero => obtain rfl : a = 0 := by omega
                  exact Nat.le_refl _
        | succ b ih =>
          rcases Nat.lt_or_ge b a with h1 | h1
          · obtain rfl : a = b + 1 := by omega
            exact Nat.le_refl _
          · rw [gd_succ]; have := ih h1; omega
      have h2 := hmono (i + 1) n hi
      rw [h, gd_succ] at h2
      by_cases e : gb k i = gb m i
      · exact e
      · rw [if_neg e] at h2; omega
    have hz : ∀ x : Nat, x < 2 ^ n → ∀ i, n ≤ i → Nat.testBit x i = false := by
      intro x hx i hi
      exact Nat.testBit_lt_two_pow (Nat.lt_of_lt_of_le hx (Nat.pow_le_pow_right (by omega) hi))
    have down : ∀ d, ∀ i, n ≤ i + d → Nat.testBit k i = Nat.testBit m i := by
      intro d
      induction d with
      | zero => intro i hi; rw [hz k hk i (by omega), hz m hm i (by omega)]
      | succ d ih =>
        intro i hi
        by_cases hn : n ≤ i
        · rw [hz k hk i hn, hz m hm i hn]
        · have h1 := ih (i + 1) (by omega)
          have h2 := hb i (by omega)
          unfold gb at h2
          rw [h1] at h2
          exact Bool.xor_left_inj.1 h2
    exact Nat.eq_of_testBit_eq fun i => down n i (by omega)
  · rintro rfl; exact gd_self k n
/-- numbers that are spread -/
def spr (w n : Int) (k : Nat) : List Int := (List.range k).map fun (i : Nat) => (i : Int) * w / n
theorem spr_zero (w n : Int) : spr w n 0 = [] := rfl
theorem spr_succ (w n : Int) (k : Nat) : spr w n (k + 1) = spr w n k ++ [(k : Int) * w / n] := by simp [spr, List.range_succ]
theorem spr_len (w n : Int) (k : Nat) : (spr w n k).length = k := by simp [spr]
theorem spr_get (w n : Int) (k i : Nat) (h : i < k) : (spr w n k)[i]? = some ((i : Int) * w / n) := by simp [spr, h]
/-- what the code keeps: the number, and what is over -/
def over (w n : Int) (i : Nat) : Int := (i : Int) * w % n
theorem over_bd (w n : Int) (h : 1 ≤ n) (i : Nat) : 0 ≤ over w n i ∧ over w n i < n := ⟨Int.emod_nonneg _ (by omega), Int.emod_lt_of_pos _ (by omega)⟩
def sat (w n : Int) (i : Nat) : Int := (i : Int) * w / n
theorem sat_zero (w n : Int) : sat w n 0 = 0 := by simp [sat]
theorem over_zero (w n : Int) : over w n 0 = 0 := by simp [over]
theorem step_split (w n : Int) (h : 1 ≤ n) (i : Nat) : ((i + 1 : Nat) : Int) * w = n * (sat w n i + w / n) + (over w n i + w % n) := by
  have e1 := Int.mul_ediv_add_emod ((i : Int) * w) n
  have e2 := Int.mul_ediv_add_emod w n
  unfold sat over
  rw [Int.natCast_add, Int.add_mul, Int.mul_add]
  simp only [Int.natCast_one, Int.one_mul]
  omega
theorem sat_carry (w n : Int) (h : 1 ≤ n) (i : Nat) (c : n ≤ over w n i + w % n) : sat w n (i + 1) = sat w n i + w / n + 1 ∧ over w n (i + 1) = over w n i + w % n - n := by
  have e := step_split w n h i
  have b1 := over_bd w n h i
  have b2 : w % n < n := Int.emod_lt_of_pos _ (by omega)
  have e2 : ((i + 1 : Nat) : Int) * w = (over w n i + w % n - n) + n * (sat w n i + w / n + 1) := by rw [e, Int.mul_add n _ 1]; omega
  constructor
  · conv => lhs; unfold sat
    rw [e2, Int.add_mul_ediv_left _ _ (by omega), Int.ediv_eq_zero_of_lt (by omega) (by omega)]; omega
  · conv => lhs; unfold over
    rw [e2, Int.add_mul_emod_self_left, Int.emod_eq_of_lt (by omega) (by omega)]
theorem sat_plain (w n : Int) (h : 1 ≤ n) (i : Nat) (hw : 0 ≤ w) (c : over w n i + w % n < n) : sat w n (i + 1) = sat w n i + w / n ∧ over w n (i + 1) = over w n i + w % n := by
  have e := step_split w n h i
  have b1 := over_bd w n h i
  have b2 : 0 ≤ w % n := Int.emod_nonneg _ (by omega)
  have e2 : ((i + 1 : Nat) : Int) * w = (over w n i + w % n) + n * (sat w n i + w / n) := by rw [e]; omega
  constructor
  · conv => lhs; unfold sat
    rw [e2, Int.add_mul_ediv_left _ _ (by omega), Int.ediv_eq_zero_of_lt (by omega) (by omega)]; omega
  · conv => lhs; unfold over
    rw [e2, Int.add_mul_emod_self_left, Int.emod_eq_of_lt (by omega) (by omega)]
theorem sat_bd (w n : Int) (h : 1 ≤ n) (hw : 0 ≤ w) (i : Nat) (hi : (i : Int) ≤ n) : 0 ≤ sat w n i ∧ sat w n i ≤ w := by
  constructor
  · exact Int.ediv_nonneg (Int.mul_nonneg (by omega) hw) (by omega)
  · have h1 : (i : Int) * w ≤ w * n := by rw [Int.mul_comm w n]; exact Int.mul_le_mul_of_nonneg_right hi hw
    exact Int.ediv_le_of_le_mul (by omega) h1
theorem sat_rise (w n : Int) (h : 1 ≤ n) (hw : n ≤ w) (i : Nat) : sat w n i < sat w n (i + 1) := by
  have h1 : 1 ≤ w / n := (Int.le_ediv_iff_mul_le (by omega)).2 (by omega)
  by_cases c : n ≤ over w n i + w % n
  · rw [(sat_carry w n h i c).1]; omega
  · rw [(sat_plain w n h i (by omega) (by omega)).1]; omega
theorem sat_lt (w n : Int) (h : 1 ≤ n) (hw : n ≤ w) (i : Nat) (hi : (i : Int) < n) : sat w n i < w := by
  have h1 := sat_rise w n h hw i
  have h2 := sat_bd w n h (by omega) (i + 1) (by omega)
  omega
/-- how many are told -/
def many (v m : Int) : Int := min (min v m) 4096
theorem many_bd (v m : Int) (h : 1 ≤ v) (h2 : 1 ≤ m) : 1 ≤ many v m ∧ many v m ≤ 4096 ∧ many v m ≤ v ∧ many v m ≤ m := by unfold many; omega
def spread (v m : Int) : List Int := if 1 ≤ v ∧ 1 ≤ m then spr v (many v m) (many v m).toNat else []
theorem spread_out (v m : Int) (h : ¬ (1 ≤ v ∧ 1 ≤ m)) : spread v m = [] := by unfold spread; rw [if_neg h]
theorem spread_in (v m : Int) (h : 1 ≤ v) (h2 : 1 ≤ m) : ∃ n : Nat, many v m = n ∧ spread v m = spr v n n := by
  have := many_bd v m h h2
  obtain ⟨n, hn⟩ := Int.eq_ofNat_of_zero_le (a := many v m) (by omega)
  refine ⟨n, hn, ?_⟩
  unfold spread
  rw [if_pos ⟨h, h2⟩, hn, Int.toNat_natCast]
end Go.Proofs.Ytgcjagffoeoldaa.Xp
