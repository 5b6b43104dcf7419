/- Plain lemmas: the number of a way. -/
import Derived.Test.YtchobkabndnhoaaPExp
namespace Go.Proofs.Ytchobkabndnhoaa.Xp
set_option linter.unusedVariables false
def numV (c : Int) (l : List Int) : Int := if numOk c l then nval c l else 0
def numE (c : Int) (l : List Int) : Int := if numOk c l then 0 else 26
theorem numV_in (c : Int) (l : List Int) (h : numOk c l) : numV c l = nval c l ∧ numE c l = 0 := by unfold numV numE; rw [if_pos h, if_pos h]; exact ⟨rfl, rfl⟩
theorem numV_out (c : Int) (l : List Int) (h : ¬ numOk c l) : numV c l = 0 ∧ numE c l = 26 := by unfold numV numE; rw [if_neg h, if_neg h]; exact ⟨rfl, rfl⟩
theorem numOk_nil (c : Int) (h : cOk c) : numOk c [] := ⟨h, by intro d hd; simp at hd, by simp [nval]⟩
theorem numOk_bd (c : Int) (l : List Int) (h : numOk c l) : 0 ≤ nval c l ∧ nval c l ≤ 1099511627776 ∧ 0 ≤ nval c l * c ∧ nval c l * c ≤ 281474976710656 := by
  obtain ⟨h1, h2, h3⟩ := h
  unfold cOk at h1
  have a := nval_nonneg c (by omega) l (fun d hd => (h2 d hd).1)
  have b : 0 ≤ nval c l * c := Int.mul_nonneg a (by omega)
  have e : nval c l * c ≤ 1099511627776 * 256 := Int.mul_le_mul h3 h1.2 (by omega) (by omega)
  omega
/-- a digit more, from above -/
theorem numOk_cons (c d : Int) (l : List Int) (h : numOk c l) (h0 : 0 ≤ d) : numOk c (d :: l) ↔ d < c ∧ nval c l ≤ (1099511627776 - d) / c := by
  have hc := h.1
  unfold cOk at hc
  constructor
  · rintro ⟨_, h2, h3⟩
    refine ⟨(h2 d (by simp)).2, (fit_iff c _ d hc.1).2 ?_⟩
    simpa [nval] using h3
  · rintro ⟨h1, h2⟩
    refine ⟨h.1, ?_, ?_⟩
    · intro x hx
      rcases List.mem_cons.1 hx with rfl | hx
      · exact ⟨h0, h1⟩
      · exact h.2.1 x hx
    · have := (fit_iff c _ d hc.1).1 h2
      simpa [nval] using this
theorem numOk_tail (c : Int) (l : List Int) (j : Nat) (h : ¬ numOk c (l.drop j)) : ¬ numOk c l := fun h2 => h (numOk_drop c l j h2)
theorem drop_cons (l : List Int) (i : Nat) (d : Int) (h : l[i]? = some d) : l.drop i = d :: l.drop (i + 1) := by
  obtain ⟨h1, h2⟩ := List.getElem?_eq_some_iff.1 h
  rw [List.drop_eq_getElem_cons h1, h2]
theorem numOk_take (c : Int) (l : List Int) (i : Nat) (h : numOk c l) (h0 : ∀ d ∈ l, 0 ≤ d) : numOk c (l.take i) := by
  obtain ⟨h1, h2, h3⟩ := h
  refine ⟨h1, fun d hd => h2 d (List.mem_of_mem_take hd), ?_⟩
  have e := nval_append c (l.take i) (l.drop i)
  rw [List.take_append_drop] at e
  unfold cOk at h1
  have q2 := nval_nonneg c (by omega) (l.drop i) (fun d hd => h0 d (List.mem_of_mem_drop hd))
  have p : (0 : Int) ≤ c ^ (l.take i).length := Int.pow_nonneg (by omega)
  have q3 : 0 ≤ c ^ (l.take i).length * nval c (l.drop i) := Int.mul_nonneg p q2
  omega
/-- a digit more, from below: how the reference goes on -/
theorem step_low (c d : Int) (l : List Int) (i : Nat) (hl : l.length = i) (h : numOk c l) (h0 : 0 ≤ d) (hd : d < c) :
    (1 ≤ d ∧ 1099511627776 < pl c i → ¬ numOk c (l ++ [d])) ∧
    (d = 0 ∨ pl c i ≤ 1099511627776 → (numOk c (l ++ [d]) ↔ nval c l + d * pl c i ≤ 1099511627776) ∧ nval c (l ++ [d]) = nval c l + d * pl c i) := by
  have hc := h.1
  unfold cOk at hc
  obtain ⟨p1, p2, p3, p4⟩ := pl_spec c hc.1 hc.2 i
  have hb := numOk_bd c l h
  have hs : nval c (l ++ [d]) = nval c l + d * c ^ i := by rw [nval_snoc, hl]
  have hok : okD c (l ++ [d]) := by
    intro x hx
    rcases List.mem_append.1 hx with hx | hx
    · exact h.2.1 x hx
    · simp at hx; subst hx; exact ⟨h0, hd⟩
  constructor
  · rintro ⟨g1, g2⟩ ⟨_, _, g3⟩
    rw [hs] at g3
    have : 1 * c ^ i ≤ d * c ^ i := Int.mul_le_mul_of_nonneg_right g1 (by omega)
    omega
  · intro g
    have e : d * c ^ i = d * pl c i := by
      rcases g with g | g
      · subst g; simp
      · rw [p4 g]
    refine ⟨⟨fun hh => ?_, fun hh => ⟨h.1, hok, by rw [hs, e]; exact hh⟩⟩, by rw [hs, e]⟩
    have := hh.2.2
    rw [hs, e] at this
    exact this
theorem not_take (c : Int) (l : List Int) (i : Nat) (h0 : ∀ d ∈ l, 0 ≤ d) (h : ¬ numOk c (l.take i)) : ¬ numOk c l := fun h2 => h (numOk_take c l i h2 h0)
theorem mul_pl (c d : Int) (h : cOk c) (i : Nat) (h0 : 0 ≤ d) (h1 : d ≤ 255) : 0 ≤ d * pl c i ∧ d * pl c i ≤ 71776119061217280 ∧ (pl c i ≤ 1099511627776 → 0 ≤ pl c i * c ∧ pl c i * c ≤ 281474976710656) ∧ 1 ≤ pl c i ∧ pl c i ≤ 281474976710656 := by
  unfold cOk at h
  obtain ⟨p1, p2, p3, p4⟩ := pl_spec c h.1 h.2 i
  have a : 0 ≤ d * pl c i := Int.mul_nonneg h0 (by omega)
  have b : d * pl c i ≤ 255 * 281474976710656 := Int.mul_le_mul h1 p2 (by omega) (by omega)
  refine ⟨a, by omega, fun h2 => ?_, p1, p2⟩
  have e : pl c i * c ≤ 1099511627776 * 256 := Int.mul_le_mul h2 h.2 (by omega) (by omega)
  have e2 : 0 ≤ pl c i * c := Int.mul_nonneg (by omega) (by omega)
  omega
/-- the next way -/
def zs (l : List Int) (j : Nat) : List Int := List.replicate j 0 ++ l.drop j
theorem zs_zero (l : List Int) : zs l 0 = l := by simp [zs]
theorem zs_len (l : List Int) (j : Nat) (h : j ≤ l.length) : (zs l j).length = l.length := by simp [zs]; omega
theorem zs_get (l : List Int) (j : Nat) (d : Int) (h : l[j]? = some d) : (zs l j)[j]? = some d := by
  unfold zs
  rw [List.getElem?_append_right (by simp), List.length_replicate, Nat.sub_self, drop_cons l j d h]; rfl
theorem zs_set (l : List Int) (j : Nat) (d x : Int) (h : l[j]? = some d) : (zs l j).set j x = List.replicate j 0 ++ x :: l.drop (j + 1) := by
  unfold zs
  rw [drop_cons l j d h, List.set_append_right _ _ (by simp), List.length_replicate, Nat.sub_self, List.set_cons_zero]
theorem zs_succ (l : List Int) (j : Nat) (d : Int) (h : l[j]? = some d) : (zs l j).set j 0 = zs l (j + 1) := by
  rw [zs_set l j d 0 h]
  unfold zs
  rw [List.replicate_succ', List.append_assoc]; rfl
theorem nval_zeros (c : Int) (j : Nat) (l : List Int) : nval c (List.replicate j 0 ++ l) = c ^ j * nval c l := by
  induction j with
  | zero => simp
  | succ j ih => rw [List.replicate_succ, List.cons_append, nval, ih, Int.pow_succ, Int.zero_add, ← Int.mul_assoc, Int.mul_comm c]
theorem nval_tops (c : Int) (l : List Int) (h : ∀ d ∈ l, d + 1 = c) : nval c l + 1 = c ^ l.length := by
  induction l with
  | nil => simp [nval]
  | cons d l ih =>
    have h1 := h d (by simp)
    have h2 := ih (fun x hx => h x (by simp [hx]))
    rw [nval, List.length_cons, Int.pow_succ, ← h2, Int.add_mul, Int.mul_comm (nval c l) c]
    omega
theorem next_val (c : Int) (l : List Int) (j : Nat) (d : Int) (hd : l[j]? = some d) (hok : okD c l) (h1 : d + 1 < c) (ht : ∀ x ∈ l.take j, c ≤ x + 1) :
    nval c (List.replicate j 0 ++ (d + 1) :: l.drop (j + 1)) = nval c l + 1 ∧ okD c (List.replicate j 0 ++ (d + 1) :: l.drop (j + 1)) ∧ (List.replicate j 0 ++ (d + 1) :: l.drop (j + 1)).length = l.length := by
  have hj : j < l.length := (List.getElem?_eq_some_iff.1 hd).1
  have hlt : (l.take j).length = j := by simp; omega
  have htop : ∀ x ∈ l.take j, x + 1 = c := fun x hx => by
    have a := ht x hx
    have b := hok x (List.mem_of_mem_take hx)
    omega
  refine ⟨?_, ?_, ?_⟩
  · have e : nval c l = nval c (l.take j) + c ^ j * nval c (d :: l.drop (j + 1)) := by
      have := nval_append c (l.take j) (l.drop j)
      rw [List.take_append_drop, hlt, drop_cons l j d hd] at this
      exact this
    have e2 := nval_tops c (l.take j) htop
    rw [hlt] at e2
    rw [nval_zeros, e, nval, nval, show d + 1 + c * nval c (l.drop (j + 1)) = (d + c * nval c (l.drop (j + 1))) + 1 from by omega, Int.mul_add, Int.mul_one]
    omega
  · intro x hx
    have hd2 := hok d (List.mem_of_getElem? hd)
    rcases List.mem_append.1 hx with hx | hx
    · have := (List.mem_replicate.1 hx).2
      omega
    · rcases List.mem_cons.1 hx with rfl | hx
      · omega
      · exact hok x (List.mem_of_mem_drop hx)
  · simp; omega
end Go.Proofs.Ytchobkabndnhoaa.Xp
