/- Plain lemmas: the bytes of words, and back. No program in sight. -/
import Derived.Test.YtgcjagffoeoldaaPBits
import Derived.Test.YtgcjagffoeoldaaPCrc
namespace Go.Proofs.Ytgcjagffoeoldaa.By
set_option linter.unusedVariables false
open Go Go.RowKit
/-- what is left of a word behind so many bytes -/
def rest (x : Int) (j : Nat) : Int := ((x.toNat / 256 ^ j : Nat) : Int)
def byteAt (x : Int) (j : Nat) : Int := rest x j % 256
def bytesTo (x : Int) (k : Nat) : List Int := (List.range k).map (byteAt x)
def bytes (xs : List Int) : List Int := xs.flatMap fun x => bytesTo x 8
theorem rest_bd (x : Int) (j : Nat) (h : x ≤ 18446744073709551615) : 0 ≤ rest x j ∧ rest x j ≤ 18446744073709551615 := by
  have : x.toNat / 256 ^ j ≤ x.toNat := Nat.div_le_self _ _
  unfold rest
  generalize x.toNat / 256 ^ j = r at *
  omega
theorem rest_zero (x : Int) (h : 0 ≤ x) : rest x 0 = x := by unfold rest; simp; omega
theorem rest_succ (x : Int) (j : Nat) : rest x j / 256 = rest x (j + 1) := by
  unfold rest
  rw [Nat.pow_succ, ← Nat.div_div_eq_div_mul]
  generalize x.toNat / 256 ^ j = r at *
  omega
theorem rest_shr (x : Int) (j : Nat) (h : 0 ≤ x) : x / 2 ^ (8 * j) = rest x j := by
  obtain ⟨X, rfl⟩ := Int.eq_ofNat_of_zero_le h
  have e : (2 : Nat) ^ (8 * j) = 256 ^ j := by rw [Nat.pow_mul]
  unfold rest
  rw [← Bt.pow_int, e, Int.toNat_natCast]
  exact (Int.natCast_ediv ..).symm
theorem byteAt_bd (x : Int) (j : Nat) : 0 ≤ byteAt x j ∧ byteAt x j ≤ 255 := by unfold byteAt; omega
theorem bytesTo_zero (x : Int) : bytesTo x 0 = [] := rfl
theorem bytesTo_succ (x : Int) (k : Nat) : bytesTo x (k + 1) = bytesTo x k ++ [byteAt x k] := by unfold bytesTo; rw [List.range_succ, List.map_append]; rfl
theorem bytesTo_len (x : Int) (k : Nat) : (bytesTo x k).length = k := by unfold bytesTo; simp
theorem bytes_nil : bytes [] = [] := rfl
theorem bytes_snoc (xs : List Int) (x : Int) : bytes (xs ++ [x]) = bytes xs ++ bytesTo x 8 := by unfold bytes; simp
theorem bytes_len (xs : List Int) : (bytes xs).length = 8 * xs.length := by
  induction xs with
  | nil => rfl
  | cons x xs ih => unfold bytes at *; rw [List.flatMap_cons, List.length_append, ih, bytesTo_len, List.length_cons]; omega
theorem bytesTo_wf (x : Int) (k : Nat) : ∀ b ∈ bytesTo x k, 0 ≤ b ∧ b ≤ 255 := by
  intro b hb
  unfold bytesTo at hb
  obtain ⟨j, _, rfl⟩ := List.mem_map.1 hb
  exact byteAt_bd x j
theorem bytes_bd (xs : List Int) : ∀ b ∈ bytes xs, 0 ≤ b ∧ b ≤ 255 := by
  intro b hb
  unfold bytes at hb
  obtain ⟨x, _, hx⟩ := List.mem_flatMap.1 hb
  exact bytesTo_wf x 8 b hx
theorem map_snoc (xs : List Int) (b : Int) (k : IntKind) : (xs ++ [b]).map (Value.int k) = xs.map (Value.int k) ++ [.int k b] := by simp
/-- the value of so many bytes from place i on, the lowest first; noughts behind the end -/
def low (bs : List Int) (i : Nat) : Nat → Int
  | 0 => 0
  | t + 1 => low bs i t + bs.getD (i + t) 0 * 256 ^ t
def word (bs : List Int) (j : Nat) : Int := low bs (8 * j) 8
def words (bs : List Int) : List Int := (List.range ((bs.length + 7) / 8)).map (word bs)
def IsBytes (bs : List Int) : Prop := ∀ b ∈ bs, 0 ≤ b ∧ b ≤ 255
theorem getD_bd (bs : List Int) (h : IsBytes bs) (i : Nat) : 0 ≤ bs.getD i 0 ∧ bs.getD i 0 ≤ 255 := by
  rw [List.getD_eq_getElem?_getD]
  rcases Nat.lt_or_ge i bs.length with hi | hi
  · rw [List.getElem?_eq_getElem hi]; exact h _ (List.getElem_mem hi)
  · rw [List.getElem?_eq_none hi]; simp
theorem low_bd (bs : List Int) (h : IsBytes bs) (i t : Nat) : 0 ≤ low bs i t ∧ low bs i t < 256 ^ t := by
  induction t with
  | zero => simp [low]
  | succ t ih =>
    have hb := getD_bd bs h (i + t)
    have p : (0 : Int) ≤ 256 ^ t := Int.pow_nonneg (by omega)
    have a : 0 ≤ bs.getD (i + t) 0 * 256 ^ t := Int.mul_nonneg hb.1 p
    have b : bs.getD (i + t) 0 * 256 ^ t ≤ 255 * 256 ^ t := Int.mul_le_mul_of_nonneg_right hb.2 p
    rw [low, Int.pow_succ]
    omega
theorem e8 : (256 : Int) ^ 8 = 18446744073709551616 := by decide
theorem word_bd (bs : List Int) (h : IsBytes bs) (j : Nat) : 0 ≤ word bs j ∧ word bs j ≤ 18446744073709551615 := by
  have := low_bd bs h (8 * j) 8
  rw [e8] at this
  unfold word
  generalize low bs (8 * j) 8 = q at *
  omega
theorem words_len (bs : List Int) : (words bs).length = (bs.length + 7) / 8 := by simp [words]
theorem words_wf (bs : List Int) (h : IsBytes bs) : ∀ x ∈ words bs, 0 ≤ x ∧ x ≤ 18446744073709551615 := by
  intro x hx
  obtain ⟨j, _, rfl⟩ := List.mem_map.1 hx
  exact word_bd bs h j
/-- the reference's way: from the top down -/
def high (bs : List Int) (i : Nat) : Nat → Int
  | 0 => 0
  | m + 1 => high bs i m * 256 + bs.getD (i + (7 - m)) 0
theorem high_low (bs : List Int) (i : Nat) : high bs i 8 = low bs i 8 := by
  rw [high, high, high, high, high, high, high, high, high, low, low, low, low, low, low, low, low, low]
  have e1 : (256 : Int) ^ 1 = 256 := by decide
  have e2 : (256 : Int) ^ 2 = 65536 := by decide
  have e3 : (256 : Int) ^ 3 = 16777216 := by decide
  have e4 : (256 : Int) ^ 4 = 4294967296 := by decide
  have e5 : (256 : Int) ^ 5 = 1099511627776 := by decide
  have e6 : (256 : Int) ^ 6 = 281474976710656 := by decide
  have e7 : (256 : Int) ^ 7 = 72057594037927936 := by decide
  rw [Int.pow_zero, e1, e2, e3, e4, e5, e6, e7]
  simp only [Nat.add_zero, Nat.sub_zero, Nat.sub_self, Nat.reduceSub]
  omega
theorem high_bd (bs : List Int) (h : IsBytes bs) (i m : Nat) (hm : m ≤ 7) : 0 ≤ high bs i m ∧ high bs i m < 256 ^ m := by
  induction m with
  | zero => simp [high]
  | succ m ih =>
    have hb := getD_bd bs h (i + (7 - m))
    have := ih (by omega)
    rw [high, Int.pow_succ]
    omega
theorem pow256 (m : Nat) : ((256 ^ m : Nat) : Int) = 256 ^ m := by
  induction m with
  | zero => rfl
  | succ m ih => rw [Nat.pow_succ, Int.natCast_mul, ih, Int.pow_succ]; rfl
theorem high_lt (bs : List Int) (h : IsBytes bs) (i m : Nat) (hm : m ≤ 7) : 0 ≤ high bs i m ∧ high bs i m ≤ 72057594037927935 := by
  have a := high_bd bs h i m hm
  have b : (256 : Int) ^ m ≤ 256 ^ 7 := by
    have h := Int.ofNat_le.2 (Nat.pow_le_pow_right (n := 256) (by omega) hm)
    rw [pow256, pow256] at h
    exact h
  have e7 : (256 : Int) ^ 7 = 72057594037927936 := by decide
  omega
theorem high_succ (bs : List Int) (i m : Nat) : high bs i (m + 1) = high bs i m * 256 + bs.getD (i + (7 - m)) 0 := rfl
/-- the code's way: a byte more -/
theorem low_take (bs : List Int) (i t n : Nat) (h : i + t ≤ n) : low (bs.take n) i t = low bs i t := by
  induction t with
  | zero => rfl
  | succ t ih =>
    rw [low, low, ih (by omega), List.getD_eq_getElem?_getD, List.getD_eq_getElem?_getD, List.getElem?_take_of_lt (by omega)]
theorem low_beyond (bs : List Int) (i t s : Nat) (h : bs.length ≤ i + s) (hs : s ≤ t) : low bs i t = low bs i s := by
  induction t with
  | zero => obtain rfl : s = 0 := by omega
            rfl
  | succ t ih =>
    rcases Nat.lt_or_ge t s with h1 | h1
    · obtain rfl : s = t + 1 := by omega
      rfl
    · rw [low, ih h1, List.getD_eq_getElem?_getD, List.getElem?_eq_none (by omega)]; simp
/-- words of the first n bytes, in a row of N -/
def fill (bs : List Int) (N n : Nat) : List Int := (List.range N).map (word (bs.take n))
theorem fill_len (bs : List Int) (N n : Nat) : (fill bs N n).length = N := by simp [fill]
theorem fill_zero (bs : List Int) (N : Nat) : fill bs N 0 = List.replicate N 0 := by
  apply List.ext_getElem
  · simp [fill]
  · intro i h1 h2
    simp [fill, word, low]
theorem fill_all (bs : List Int) (n : Nat) (h : bs.length ≤ n) : fill bs ((bs.length + 7) / 8) n = words bs := by
  unfold fill words; rw [List.take_of_length_le h]
theorem fill_at (bs : List Int) (N n : Nat) (h : n / 8 < N) : (fill bs N n)[n / 8]? = some (low bs (8 * (n / 8)) (n % 8)) := by
  have e : word (bs.take n) (n / 8) = low bs (8 * (n / 8)) (n % 8) := by
    unfold word
    rw [low_beyond (bs.take n) (8 * (n / 8)) 8 (n % 8) (by simp; omega) (by omega), low_take _ _ _ _ (by omega)]
  simp [fill, h, e]
theorem fill_step (bs : List Int) (N n : Nat) (b : Int) (hb : bs[n]? = some b) (h : n / 8 < N) :
    fill bs N (n + 1) = (fill bs N n).set (n / 8) (low bs (8 * (n / 8)) (n % 8) + b * 256 ^ (n % 8)) := by
  apply List.ext_getElem
  · simp [fill]
  · intro j h1 h2
    rw [List.getElem_set]
    simp only [fill, List.getElem_map, List.getElem_range]
    by_cases e : n / 8 = j
    · subst e
      rw [if_pos rfl]
      unfold word
      rw [low_beyond (bs.take (n + 1)) (8 * (n / 8)) 8 (n % 8 + 1) (by simp; omega) (by omega), low_take _ _ _ _ (by omega), low, List.getD_eq_getElem?_getD, show 8 * (n / 8) + n % 8 = n from by omega, hb]
      rfl
    · rw [if_neg e]
      unfold word
      rcases Nat.lt_or_ge n (8 * j) with g | g
      · rw [low_beyond (bs.take (n + 1)) (8 * j) 8 0 (by simp; omega) (by omega), low_beyond (bs.take n) (8 * j) 8 0 (by simp; omega) (by omega)]; rfl
      · rw [low_take _ _ _ _ (by omega), low_take _ _ _ _ (by omega)]
/-- the words of the bytes of words are these -/
theorem rest_split (x : Int) (t : Nat) : rest x t = byteAt x t + 256 * rest x (t + 1) := by
  have := rest_succ x t
  unfold byteAt; omega
theorem sum_bytes (x : Int) (hx : 0 ≤ x) (f : Nat → Int) (h : ∀ t, t < 8 → f t = byteAt x t) : f 0 + f 1 * 256 + f 2 * 65536 + f 3 * 16777216 + f 4 * 4294967296 + f 5 * 1099511627776 + f 6 * 281474976710656 + f 7 * 72057594037927936 + 18446744073709551616 * rest x 8 = x := by
  have h0 := rest_split x 0
  have h1 := rest_split x 1
  have h2 := rest_split x 2
  have h3 := rest_split x 3
  have h4 := rest_split x 4
  have h5 := rest_split x 5
  have h6 := rest_split x 6
  have h7 := rest_split x 7
  have hz := rest_zero x hx
  simp only [Nat.zero_add, Nat.reduceAdd] at h0 h1 h2 h3 h4 h5 h6 h7
  rw [h 0 (by omega), h 1 (by omega), h 2 (by omega), h 3 (by omega), h 4 (by omega), h 5 (by omega), h 6 (by omega), h 7 (by omega)]
  omega
theorem bytes_get (xs : List Int) (j t : Nat) (x : Int) (hx : xs[j]? = some x) (ht : t < 8) : (bytes xs)[8 * j + t]? = some (byteAt x t) := by
  induction xs generalizing j with
  | nil => simp at hx
  | cons y ys ih =>
    have e : bytes (y :: ys) = bytesTo y 8 ++ bytes ys := by unfold bytes; rw [List.flatMap_cons]
    rw [e]
    match j with
    | 0 =>
      simp at hx; subst hx
      rw [List.getElem?_append_left (by rw [bytesTo_len]; omega)]
      simp [bytesTo, ht]
    | j + 1 =>
      simp at hx
      rw [List.getElem?_append_right (by rw [bytesTo_len]; omega), bytesTo_len, show 8 * (j + 1) + t - 8 = 8 * j + t from by omega]
      exact ih j hx
theorem rest8 (x : Int) (h : x ≤ 18446744073709551615) (h0 : 0 ≤ x) : rest x 8 = 0 := by
  unfold rest
  have e : (256 : Nat) ^ 8 = 18446744073709551616 := by decide
  rw [e]; omega
theorem word_bytes (xs : List Int) (j : Nat) (x : Int) (hx : xs[j]? = some x) (h0 : 0 ≤ x) (h1 : x ≤ 18446744073709551615) : word (bytes xs) j = x := by
  have hg : ∀ t, t < 8 → (bytes xs).getD (8 * j + t) 0 = byteAt x t := by
    intro t ht
    rw [List.getD_eq_getElem?_getD, bytes_get xs j t x hx ht]; rfl
  have hs := sum_bytes x h0 (fun t => (bytes xs).getD (8 * j + t) 0) hg
  rw [rest8 x h1 h0] at hs
  have e1 : (256 : Int) ^ 1 = 256 := by decide
  have e2 : (256 : Int) ^ 2 = 65536 := by decide
  have e3 : (256 : Int) ^ 3 = 16777216 := by decide
  have e4 : (256 : Int) ^ 4 = 4294967296 := by decide
  have e5 : (256 : Int) ^ 5 = 1099511627776 := by decide
  have e6 : (256 : Int) ^ 6 = 281474976710656 := by decide
  have e7 : (256 : Int) ^ 7 = 72057594037927936 := by decide
  unfold word
  rw [low, low, low, low, low, low, low, low, low]
  rw [Int.pow_zero, e1, e2, e3, e4, e5, e6, e7]
  generalize (bytes xs).getD (8 * j + 0) 0 = f0 at *
  generalize (bytes xs).getD (8 * j + 1) 0 = f1 at *
  generalize (bytes xs).getD (8 * j + 2) 0 = f2 at *
  generalize (bytes xs).getD (8 * j + 3) 0 = f3 at *
  generalize (bytes xs).getD (8 * j + 4) 0 = f4 at *
  generalize (bytes xs).getD (8 * j + 5) 0 = f5 at *
  generalize (bytes xs).getD (8 * j + 6) 0 = f6 at *
  generalize (bytes xs).getD (8 * j + 7) 0 = f7 at *
  omega
theorem words_bytes (xs : List Int) (h : ∀ x ∈ xs, 0 ≤ x ∧ x ≤ 18446744073709551615) : words (bytes xs) = xs := by
  apply List.ext_getElem
  · rw [words_len, bytes_len]; omega
  · intro j h1 h2
    simp only [words, List.getElem_map, List.getElem_range]
    have := h _ (List.getElem_mem h2)
    exact word_bytes xs j _ (List.getElem?_eq_getElem h2) this.1 this.2
theorem or_code (x b : Int) (r : Nat) (hx : 0 ≤ x) (hx2 : x < 256 ^ r) (hb : 0 ≤ b) : ((x.toNat ||| (b.toNat <<< (8 * r)) : Nat) : Int) = x + b * 256 ^ r := by
  obtain ⟨X, rfl⟩ := Int.eq_ofNat_of_zero_le hx
  obtain ⟨B, rfl⟩ := Int.eq_ofNat_of_zero_le hb
  have e : (2 : Nat) ^ (8 * r) = 256 ^ r := by rw [Nat.pow_mul]
  have hx3 : X < 2 ^ (8 * r) := by rw [e]; rw [← pow256] at hx2; exact Int.ofNat_lt.1 hx2
  simp only [Int.toNat_natCast]
  rw [Nat.or_comm, ← Nat.shiftLeft_add_eq_or_of_lt hx3, Nat.shiftLeft_eq, e]
  rw [Int.natCast_add, Int.natCast_mul, pow256]
  exact Int.add_comm _ _
theorem or_step (x d : Int) (r : Nat) (hr : r ≤ 7) (hx : 0 ≤ x) (hx2 : x < 256 ^ r) (hd : 0 ≤ d) (hd2 : d ≤ 255) : bits .or .u64 x (IntKind.u64.wrap (d * 2 ^ (8 * r))) = x + d * 256 ^ r := by
  rw [← or_code x d r hx hx2 hd]
  obtain ⟨X, rfl⟩ := Int.eq_ofNat_of_zero_le hx
  obtain ⟨D, rfl⟩ := Int.eq_ofNat_of_zero_le hd
  have e : (2 : Nat) ^ (8 * r) = 256 ^ r := by rw [Nat.pow_mul]
  have h7 : (256 : Nat) ^ r ≤ 256 ^ 7 := Nat.pow_le_pow_right (by omega) hr
  have e7 : (256 : Nat) ^ 7 = 72057594037927936 := by decide
  have hD : D * 2 ^ (8 * r) ≤ 255 * 72057594037927936 := by rw [e]; exact Nat.mul_le_mul (by omega) (by omega)
  have hX : X < 256 ^ r := by rw [← pow256] at hx2; exact Int.ofNat_lt.1 hx2
  have e2 : ((D : Int) * 2 ^ (8 * r)) = ((D * 2 ^ (8 * r) : Nat) : Int) := by rw [Int.natCast_mul, Bt.pow_int]
  rw [e2, IntKind.wrap_u64]
  have e3 : (((D * 2 ^ (8 * r) : Nat) : Int) % 18446744073709551616) = ((D * 2 ^ (8 * r) : Nat) : Int) := by omega
  rw [e3, bits_or_u64_nat _ _ (by omega) (by omega), Int.toNat_natCast, Int.toNat_natCast, Nat.shiftLeft_eq]
end Go.Proofs.Ytgcjagffoeoldaa.By
