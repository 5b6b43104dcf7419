/- Parts of the proof, one behind the other. -/
import Derived.DeepKeys4
import Derived.Deep.Slices
import Derived.Deep.Fields
import Derived.ChangeSame
import Derived.Test.YtlakbclnilakbaaKCensusAgesc
set_option linter.unusedSimpArgs false
set_option linter.unusedVariables false
set_option linter.unusedSectionVars false
section
namespace Go.Proofs.Ytlakbclnilakbaa.Cn
/-- a number, in its place, once -/
def ins : List Int → Int → List Int
 | [], x => [x]
 | y :: l, x => if y < x then y :: ins l x else if y = x then y :: l else x :: y :: l
theorem ins_mem : ∀ (l : List Int) (x z : Int), z ∈ ins l x ↔ z = x ∨ z ∈ l
 | [], x, z => by simp [ins]
 | y :: l, x, z => by
  unfold ins
  split
  ·rw [List.mem_cons, ins_mem l x z, List.mem_cons]
   constructor
   ·rintro (h | h | h)
    ·exact .inr (.inl h)
    ·exact .inl h
    ·exact .inr (.inr h)
   ·rintro (h | h | h)
    ·exact .inr (.inl h)
    ·exact .inl h
    ·exact .inr (.inr h)
  ·split
   ·rename_i e
    subst e
    constructor
    ·exact .inr
    ·rintro (h | h)
     ·exact List.mem_cons.2 (.inl h)
     ·exact h
   ·rw [List.mem_cons]
theorem ins_rise : ∀ (l : List Int) (x : Int), l.Pairwise (· < ·) → (ins l x).Pairwise (· < ·)
 | [], x, _ => by simp [ins]
 | y :: l, x, h => by
  obtain ⟨h1, h2⟩ := List.pairwise_cons.1 h
  unfold ins
  split
  ·refine List.pairwise_cons.2 ⟨fun z hz => ?_, ins_rise l x h2⟩
   rcases (ins_mem l x z).1 hz with rfl | hz
   ·assumption
   ·exact h1 z hz
  ·split
   ·exact h
   ·refine List.pairwise_cons.2 ⟨fun z hz => ?_, h⟩
    rcases List.mem_cons.1 hz with rfl | hz
    ·omega
    ·have := h1 z hz; omega
theorem ins_at : ∀ (l : List Int) (x : Int) (n : Nat), n ≤ l.length → (∀ j y, j < n → l[j]? = some y → y < x) → (∀ y, l[n]? = some y → ¬ y < x) →
  ins l x = if l[n]? = some x then l else l.take n ++ x :: l.drop n
 | [], x, n, hn, _, _ => by simp at hn; subst hn; rfl
 | y :: l, x, 0, _, _, h => by
  have := h y rfl
  rw [ins, if_neg this]
  by_cases e : y = x
  ·rw [if_pos e, if_pos (by rw [e]; rfl)]
  ·rw [if_neg e, if_neg (by simpa using e)]; rfl
 | y :: l, x, n + 1, hn, h1, h2 => by
  rw [ins, if_pos (h1 0 y (by omega) rfl), ins_at l x n (by simpa using hn) (fun j z hj hz => h1 (j + 1) z (by omega) (by simpa using hz)) (fun z hz => h2 z (by simpa using hz))]
  rw [show (y :: l)[n + 1]? = l[n]? from rfl]
  split
  ·rfl
  ·rfl
def sorted (l : List Int) : List Int := l.foldl ins []
theorem fold_mem (z : Int) : ∀ (l s : List Int), z ∈ l.foldl ins s ↔ z ∈ l ∨ z ∈ s
 | [], s => by simp
 | x :: l, s => by
  rw [List.foldl_cons, fold_mem z l, ins_mem, List.mem_cons]
  constructor
  ·rintro (h | h | h)
   ·exact .inl (.inr h)
   ·exact .inl (.inl h)
   ·exact .inr h
  ·rintro ((h | h) | h)
   ·exact .inr (.inl h)
   ·exact .inl h
   ·exact .inr (.inr h)
theorem sorted_mem (l : List Int) (z : Int) : z ∈ sorted l ↔ z ∈ l := by unfold sorted; rw [fold_mem]; simp
theorem fold_rise : ∀ (l s : List Int), s.Pairwise (· < ·) → (l.foldl ins s).Pairwise (· < ·)
 | [], s, h => h
 | x :: l, s, h => fold_rise l _ (ins_rise s x h)
theorem sorted_rise (l : List Int) : (sorted l).Pairwise (· < ·) := fold_rise l [] List.Pairwise.nil
theorem sorted_nodup (l : List Int) : (sorted l).Nodup := (sorted_rise l).imp fun h e => by omega
theorem ins_len : ∀ (l : List Int) (x : Int), (ins l x).length ≤ l.length + 1
 | [], _ => by simp [ins]
 | y :: l, x => by
  have := ins_len l x
  unfold ins
  split
  ·simp only [List.length_cons]; omega
  ·split
   ·simp
   ·simp
theorem fold_len : ∀ (l s : List Int), (l.foldl ins s).length ≤ s.length + l.length
 | [], s => by simp
 | x :: l, s => by
  have h1 := fold_len l (ins s x)
  have h2 := ins_len s x
  rw [List.foldl_cons, List.length_cons]; omega
theorem sorted_len (l : List Int) : (sorted l).length ≤ l.length := by have := fold_len l []; simpa [sorted] using this
theorem sorted_snoc {l : List Int} {i : Nat} {x : Int} (h : l[i]? = some x) : sorted (l.take (i + 1)) = ins (sorted (l.take i)) x := by
 rw [← tk_snoc h]; unfold sorted; rw [List.foldl_append]; rfl
/-! ages -/
def ageR (a : Int) : List (List Int) → Nat
 | [] => 0
 | l :: r => if a ∈ l then ageR a r + 1 else 0
def age (cs : List (List Int)) (a : Int) : Nat := ageR a cs.reverse
theorem age_snoc (cs : List (List Int)) (l : List Int) (a : Int) : age (cs ++ [l]) a = if a ∈ l then age cs a + 1 else 0 := by
 unfold age; rw [List.reverse_append]; rfl
theorem age_le : ∀ (cs : List (List Int)) (a : Int), age cs a ≤ cs.length := by
 intro cs a
 unfold age
 rw [← List.length_reverse]
 generalize cs.reverse = r
 induction r with
 | nil => exact Nat.le_refl _
 | cons l r ih =>
  unfold ageR
  split
  ·simp only [List.length_cons]; omega
  ·exact Nat.zero_le _
def without (l other : List Int) : List Int := (sorted l).filter fun a => decide (a ∉ other)
/-- the ages at which all died: the last step, and those ahead of it -/
def livedR : List (List Int) → List Int
 | [] => []
 | [_] => []
 | l :: k :: r => livedR (k :: r) ++ (without k l).map fun a => (ageR a (k :: r) : Int)
def lived (cs : List (List Int)) : List Int := livedR cs.reverse
theorem lived_snoc2 (cs : List (List Int)) (k l : List Int) : lived (cs ++ [k] ++ [l]) = lived (cs ++ [k]) ++ (without k l).map fun a => (age (cs ++ [k]) a : Int) := by
 unfold lived age
 rw [List.reverse_append, List.reverse_append]; rfl
/-! what the map holds -/
structure Inv (M : List (Int × Int)) (f : Int → Nat) : Prop where
 get : ∀ a, mget M a = if f a = 0 then none else some (f a : Int)
 nd : (M.map Prod.fst).Nodup
theorem Inv.nil {f : Int → Nat} (h : ∀ a, f a = 0) : Inv [] f := ⟨fun a => by rw [h a]; rfl, List.nodup_nil⟩
theorem mget_app (l : List (Int × Int)) (x v a : Int) (h : mget l x = none) : mget (l ++ [(x, v)]) a = if a = x then some v else mget l a := by
 induction l with
 | nil =>
  show (if x = a then some v else none) = _
  by_cases e : a = x
  ·rw [if_pos e, if_pos e.symm]
  ·rw [if_neg e, if_neg (fun h => e h.symm)]; rfl
 | cons p l ih =>
  rw [mget] at h
  split at h
  ·cases h
  ·rename_i hp
   rw [List.cons_append, mget, mget, ih h]
   by_cases e : a = x
   ·subst e
    rw [if_neg hp, if_pos rfl, if_pos rfl]
   ·rw [if_neg e, if_neg e]
theorem now_get {M : List (Int × Int)} {f : Int → Nat} (hI : Inv M f) (l : List Int) : Inv (now M l) fun a => if a ∈ l then f a + 1 else 0 := by
 have hv : ∀ a, (mget M a).getD 0 = (f a : Int) := fun a => by
  rw [hI.get]
  split
  ·rename_i h; rw [h]; rfl
  ·rfl
 suffices h : ∀ (r s : List Int), (∀ N : List (Int × Int), Inv N (fun a => if a ∈ s then f a + 1 else 0) → Inv (r.foldl (nstep M) N) fun a => if a ∈ s ++ r then f a + 1 else 0) by
  have := h l [] [] (Inv.nil fun a => by simp)
  simpa [now] using this
 intro r
 induction r with
 | nil => intro s N hN; simpa using hN
 | cons x r ih =>
  intro s N hN
  rw [List.foldl_cons, show s ++ x :: r = (s ++ [x]) ++ r by simp]
  refine ih (s ++ [x]) _ ?_
  unfold nstep
  by_cases hx : x ∈ s
  ·have h1 : mget N x = some ((f x + 1 : Nat) : Int) := by rw [hN.get]; simp [hx]
   rw [h1, Option.isSome_some, if_pos rfl]
   have e : (fun a => if a ∈ s ++ [x] then f a + 1 else 0) = fun a => if a ∈ s then f a + 1 else 0 := by
    funext a
    by_cases ha : a ∈ s
    ·rw [if_pos ha, if_pos (by simp [ha])]
    ·rw [if_neg ha, if_neg (by
      intro h
      rcases List.mem_append.1 h with h | h
      ·exact ha h
      ·rw [List.mem_singleton.1 h] at ha; exact ha hx)]
   rw [e]; exact hN
  ·have h1 : mget N x = none := by rw [hN.get]; simp [hx]
   rw [h1, Option.isSome_none, if_neg (by simp), hv]
   refine ⟨fun a => ?_, ?_⟩
   ·rw [mget_app _ _ _ _ h1]
    by_cases e : a = x
    ·subst e; rw [if_pos rfl]; simp
    ·rw [if_neg e, hN.get]
     simp [e]
   ·rw [List.map_append, List.nodup_append]
    refine ⟨hN.nd, by simp, fun y hy z hz => ?_⟩
    obtain ⟨p, hp, rfl⟩ := List.mem_map.1 hy
    simp at hz
    subst hz
    exact (mget_iff _ _).1 h1 p hp
theorem Inv.congr {M : List (Int × Int)} {f g : Int → Nat} (h : Inv M f) (e : ∀ a, f a = g a) : Inv M g := by
 have : f = g := funext e
 rw [← this]; exact h
theorem Inv.mem {M : List (Int × Int)} {f : Int → Nat} (h : Inv M f) (p : Int × Int) : p ∈ M ↔ f p.1 ≠ 0 ∧ p.2 = f p.1 := by
 constructor
 ·intro hp
  obtain ⟨i, hi, rfl⟩ := List.mem_iff_getElem.1 hp
  have h1 := (m_some M i _ (List.getElem?_eq_getElem hi) h.nd).1
  rw [h.get] at h1
  split at h1
  ·cases h1
  ·rename_i hf
   injection h1 with h1
   exact ⟨hf, h1.symm⟩
 ·rintro ⟨h1, h2⟩
  have h3 := h.get p.1
  rw [if_neg h1, ← h2] at h3
  exact mget_mem h3
/-- the map, by the document -/
theorem Inv.perm {M : List (Int × Int)} {f : Int → Nat} (h : Inv M f) {s : List Int} (hs : s.Nodup) (hm : ∀ a, a ∈ s ↔ f a ≠ 0) : M.Perm (s.map fun a => (a, (f a : Int))) := by
 have h1 : M.Nodup := (List.pairwise_map.1 h.nd).imp fun {a b} (h : a.1 ≠ b.1) e => h (by rw [e])
 have h2 : (s.map fun a => (a, (f a : Int))).Nodup := List.pairwise_map.2 (hs.imp fun {a b} (h : a ≠ b) (e : (a, (f a : Int)) = (b, (f b : Int))) => h (by injection e))
 refine (List.perm_ext_iff_of_nodup h1 h2).2 fun p => ?_
 rw [h.mem, List.mem_map]
 constructor
 ·rintro ⟨h3, h4⟩
  exact ⟨p.1, (hm _).2 h3, by rw [← h4]⟩
 ·rintro ⟨a, ha, rfl⟩
  exact ⟨(hm a).1 ha, rfl⟩
theorem gone_perm {M N : List (Int × Int)} {f : Int → Nat} {l s : List Int} (hN : Inv N fun a => if a ∈ l then f a + 1 else 0) (hM : M.Perm ((sorted s).map fun a => (a, (f a : Int)))) : (gone N M).Perm ((without s l).map fun a => (a, (f a : Int))) := by
 unfold gone
 refine (hM.filter _).trans ?_
 rw [List.filter_map]
 unfold without
 have e : ((fun p : Int × Int => (mget N p.1).isNone) ∘ fun a => (a, (f a : Int))) = fun a => decide (a ∉ l) := by
  funext a
  show (mget N a).isNone = _
  rw [hN.get]
  by_cases h : a ∈ l
  ·simp [h]
  ·simp [h]
 rw [e]
end Go.Proofs.Ytlakbclnilakbaa.Cn
end

section
namespace Go.Proofs.Ytlakbclnilakbaa
end Go.Proofs.Ytlakbclnilakbaa
end

section
namespace Go.Proofs.Ytlakbclnilakbaa
def gone (f t x : Int) : Bool := decide (f ≤ x ∧ x < t)
end Go.Proofs.Ytlakbclnilakbaa
end

section
namespace Go.Proofs.Ytlakbclnilakbaa
end Go.Proofs.Ytlakbclnilakbaa
end

section
namespace Go.Proofs.Ytlakbclnilakbaa
open Go.RowKit
set_option maxRecDepth 100000
set_option maxHeartbeats 2000000
theorem rIntsT (A B : Option Addr) (n c d : Nat) (l : List Int) (w : World) (hA : Sees (Value.int .i64) w [] A l) (hB : Sees (Value.int .i64) w [] B l) (hl : l.length = n) (hn : n ≤ 1000000000) :
  Calls Try.prog 12 [.slice A n c, .slice B n d].toArray w fun e w' => e = .returned (.bool true) ∧ Only [] w w' := by
 have H := Heap.nil w
 refine k_in (N := 26) Try.func12 rfl rfl rfl ?_
 refine k_sg ?_
 refine s_run rfl rfl (rab rfl) ?_
 refine k_nc ?_
 refine k_seq ?_
 refine k_sg ?_
 refine s_run rfl rfl (rms rfl) ?_
 refine s_run rfl rfl (r_len rfl Try.underlying25) ?_
 refine s_run rfl rfl (rms rfl) ?_
 refine s_run rfl rfl (r_len rfl Try.underlying25) ?_
 refine s_run rfl rfl (r_neqF rfl rfl (by omega)) ?_
 refine k_nc ?_
 refine k_f rfl ?_
 refine k_skip ?_
 refine c_norm ?_
 refine k_seq ?_
 refine k_sg ?_
 refine s_run rfl rfl (rai rfl) ?_
 refine k_nc ?_
 refine k_b ?_
 refine k_loop (fun z f W => ∃ (i : Nat), i ≤ n ∧ z = n - i ∧ f 0 = .slice A n c ∧ f 1 = .slice B n d ∧ f 5 = .int .i64 i ∧ Heap w [] [] W) n ⟨0, by omega, rfl, rfl, rfl, rfl, H⟩ ?_
 clear H
 rintro z f W ⟨i, hi, rfl, f0, f1, f5, H⟩
 by_cases hlt : i < n
 ·obtain ⟨y, hy⟩ : ∃ y, l[i]? = some y := ⟨_, List.getElem?_eq_getElem (by omega)⟩
  obtain ⟨b, o, rfl, _, hrd⟩ := hA (by omega)
  have hc0 := hrd i y hy
  obtain ⟨b', o', rfl, _, hrd'⟩ := hB (by omega)
  have hc1 := hrd' i y hy
  obtain ⟨f, rfl⟩ := live3 f0 f1 f5
  clear f0 f1 f5
  refine k_seq ?_
  refine k_sg ?_
  refine s_run rfl rfl (rmi rfl) ?_
  refine s_run rfl rfl (rms rfl) ?_
  refine s_run rfl rfl (r_len rfl Try.underlying25) ?_
  refine s_run rfl rfl (r_lssT rfl rfl (by omega)) ?_
  refine k_nc ?_
  refine k_t rfl ?_
  refine k_skip ?_
  refine c_norm ?_
  refine k_seq ?_
  refine k_b ?_
  refine k_seq ?_
  refine k_q mixed (by kernel_rfl) H ?_
  refine q_run rfl rfl (fun _ H => r_mv (v := .slice _ _ _) rfl) ?_
  refine q_run rfl rfl (fun _ H => r_mv (v := .int _ _) rfl) ?_
  first | (refine q_run rfl rfl (fun _ H => r_ix1 (i := i) rfl rfl (by omega) (by omega) Try.underlying25 sz3) ?_) | (refine q_run rfl rfl (fun _ H => r_ix1o (i := i) rfl rfl (by omega) (by omega) Try.underlying25 sz3) ?_) | fail
  refine q_run rfl rfl (fun _ H => r_lr H rfl hc0 (by simp) ag3) ?_
  refine q_run rfl rfl (fun _ H => r_mv (v := .slice _ _ _) rfl) ?_
  refine q_run rfl rfl (fun _ H => r_mv (v := .int _ _) rfl) ?_
  first | (refine q_run rfl rfl (fun _ H => r_ix1 (i := i) rfl rfl (by omega) (by omega) Try.underlying25 sz3) ?_) | (refine q_run rfl rfl (fun _ H => r_ix1o (i := i) rfl rfl (by omega) (by omega) Try.underlying25 sz3) ?_) | fail
  refine q_run rfl rfl (fun _ H => r_lr H rfl hc1 (by simp) ag3) ?_
  refine q_run rfl rfl (fun _ H => r_neqF rfl rfl (by omega)) ?_
  refine q_nil ?_
  intro _ H'; clear H; have H := H'; clear H'
  refine c_norm ?_
  refine k_f rfl ?_
  refine k_skip ?_
  refine b_norm ?_
  refine c_norm ?_
  refine k_rg ?_
  refine s_run rfl rfl (rmi rfl) ?_
  refine s_run rfl rfl (r_add rfl rfl (wI (by omega))) ?_
  refine s_run rfl rfl (rai rfl) ?_
  refine k_nil ?_
  refine c_round ?_
  refine ⟨_, _, ?_, rfl, i + 1, by omega, rfl, rfl, rfl, rfl, H⟩
  omega
 ·obtain rfl : i = n := by omega
  obtain ⟨f, rfl⟩ := live3 f0 f1 f5
  clear f0 f1 f5
  refine k_seq ?_
  refine k_sg ?_
  refine s_run rfl rfl (rmi rfl) ?_
  refine s_run rfl rfl (rms rfl) ?_
  refine s_run rfl rfl (r_len rfl Try.underlying25) ?_
  refine s_run rfl rfl (r_lssF rfl rfl (by omega)) ?_
  refine k_nc ?_
  refine k_f rfl ?_
  refine k_exit ?_
  refine c_exit ?_
  refine c_exit ?_
  refine b_hit ?_
  refine c_norm ?_
  refine k_sg ?_
  refine s_run rfl rfl (rab rfl) ?_
  refine k_nc ?_
  refine k_ret ?_
  refine fin1r (v := .bool _) rfl rfl ?_
  exact ⟨rfl, H.only⟩
end Go.Proofs.Ytlakbclnilakbaa
end

section
namespace Go.Proofs.Ytlakbclnilakbaa
open Go.RowKit
set_option maxRecDepth 100000
set_option maxHeartbeats 4000000
/-- a row of one's own, or nil -/
theorem sClone (A : Option Addr) (n c : Nat) (l : List Int) (w : World) (hS : Sees (Value.int .i64) w [] A l) (hl : l.length = n) (hn : n ≤ 1000000) :
  Calls Try.prog 54 [.slice A n c].toArray w fun e w' => ∃ A' c', e = .returned (.slice A' n c') ∧ Heap w [] [ownN 1 (.slice A' n c') n (l.map (Value.int .i64)) 3] w' := by
 have H := Heap.nil w
 cases A with
 | none =>
  have h0 : l.length = 0 := by
   rcases Nat.eq_zero_or_pos l.length with h0 | h0
   ·exact h0
   ·obtain ⟨q, r, e0, _⟩ := hS (by omega); cases e0
  obtain rfl : l = [] := List.eq_nil_of_length_eq_zero h0
  obtain rfl : n = 0 := by simpa using hl.symm
  refine k_in (N := 8) Try.func54 rfl rfl rfl ?_
  refine k_sg ?_
  refine s_run rfl rfl (ras rfl) ?_
  refine k_nc ?_
  refine k_seq ?_
  refine k_sg ?_
  refine s_run rfl rfl (rms rfl) ?_
  refine s_run rfl rfl (r_slnilT rfl rfl Try.underlying25) ?_
  refine k_nc ?_
  refine k_t rfl ?_
  refine k_sg ?_
  refine s_run rfl rfl (ras rfl) ?_
  refine k_nc ?_
  refine k_ret ?_
  refine c_ret ?_
  refine fin1r (v := .slice _ _ _) rfl rfl ?_
  exact ⟨none, 0, rfl, H.own_nil 1 3⟩
 | some a =>
  refine k_in (N := 8) Try.func54 rfl rfl rfl ?_
  refine k_sg ?_
  refine s_run rfl rfl (ras rfl) ?_
  refine k_nc ?_
  refine k_seq ?_
  refine k_sg ?_
  refine s_run rfl rfl (rms rfl) ?_
  refine s_run rfl rfl (r_slnilF rfl rfl Try.underlying25) ?_
  refine k_nc ?_
  refine k_f rfl ?_
  refine k_skip ?_
  refine c_norm ?_
  refine k_sg ?_
  refine s_bs0 1 (by omega) H rfl Try.underlying25 inf3 ?_
  intro _ _ H'; clear H; have H := H'; clear H'
  refine s_run rfl rfl (rms rfl) ?_
  refine s_apps (enc := (Value.int .i64)) (xs := []) H 0 rfl rfl rfl rfl (hS) (hl) (fun _ => rfl) (by omega) Try.underlying25 inf3 rfl ?_
  intro A1 c1 _ hA H'; simp only [List.set_cons_zero, List.set_cons_succ, List.take_succ_cons, List.take_zero, List.drop_succ_cons, List.drop_zero, List.cons_append, List.nil_append, List.append_nil, List.length_cons, List.length_nil, Nat.reduceAdd] at H'; clear H; have H := H'; clear H'
  refine s_run rfl rfl (ras rfl) ?_
  refine k_nc ?_
  refine k_ret ?_
  refine fin1r (v := .slice _ _ _) rfl rfl ?_
  rw [Nat.zero_add] at H
  exact ⟨A1, c1, by rw [Nat.zero_add], H⟩
end Go.Proofs.Ytlakbclnilakbaa
end

section
namespace Go.Proofs.Ytlakbclnilakbaa
open Go.RowKit
set_option maxRecDepth 100000
set_option maxHeartbeats 4000000
theorem dHas (A : Option Addr) (n c : Nat) (l : List Int) (x : Int) (w : World) (hS : Sees (Value.int .i64) w [] A l) (hl : l.length = n) (hn : n ≤ 1000000) :
  Calls Try.prog 69 [.slice A n c, .int .i64 x].toArray w fun e w' => e = .returned (.bool (decide (x ∈ l))) ∧ Only [] w w' := by
 have H := Heap.nil w
 refine k_in (N := 18) Try.func69 rfl rfl rfl ?_
 refine k_sg ?_
 refine s_run rfl rfl (rab rfl) ?_
 refine k_nc ?_
 refine k_seq ?_
 refine k_sg ?_
 refine s_run rfl rfl (rai rfl) ?_
 refine k_nc ?_
 refine k_b ?_
 refine k_loop (fun z f W => ∃ (i : Nat), i ≤ n ∧ z = n - i ∧ (∀ k y, k < i → l[k]? = some y → y ≠ x) ∧ f 0 = .slice A n c ∧ f 1 = .int .i64 x ∧ f 5 = .int .i64 i ∧ Heap w [] [] W) n ⟨0, by omega, rfl, by omega, rfl, rfl, rfl, H⟩ ?_
 clear H
 rintro z f W ⟨i, hi, rfl, hlo, f0, f1, f5, H⟩
 by_cases hil : i < n
 ·obtain ⟨y, hy⟩ : ∃ y, l[i]? = some y := ⟨_, List.getElem?_eq_getElem (by omega)⟩
  obtain ⟨b, o, rfl, _, hrd⟩ := hS (by omega)
  have cy := hrd _ _ hy
  obtain ⟨f, rfl⟩ := live3 f0 f1 f5
  clear f0 f1 f5
  by_cases e : y = x
  ·subst e
   rw [decide_eq_true (List.mem_of_getElem? hy)]
   refine k_seq ?_
   refine k_sg ?_
   refine s_run rfl rfl (rmi rfl) ?_
   refine s_run rfl rfl (rms rfl) ?_
   refine s_run rfl rfl (r_len rfl Try.underlying25) ?_
   refine s_run rfl rfl (r_lssT rfl rfl (by omega)) ?_
   refine k_nc ?_
   refine k_t rfl ?_
   refine k_skip ?_
   refine c_norm ?_
   refine k_seq ?_
   refine k_b ?_
   refine k_sg ?_
   refine s_run rfl rfl (rms rfl) ?_
   refine s_run rfl rfl (rmi rfl) ?_
   refine s_run rfl rfl (r_ix1o (i := i) rfl rfl (by omega) (by omega) Try.underlying25 sz3) ?_
   refine s_run rfl rfl (r_lr H rfl cy (by simp) ag3) ?_
   refine s_run rfl rfl (rmi rfl) ?_
   refine s_run rfl rfl (r_eqlT rfl rfl (by omega)) ?_
   refine k_nc ?_
   refine k_t rfl ?_
   refine k_sg ?_
   refine s_run rfl rfl (rab rfl) ?_
   refine k_nc ?_
   refine k_ret ?_
   refine b_ret ?_
   refine c_ret ?_
   refine c_ret ?_
   refine b_ret ?_
   refine c_ret ?_
   refine fin1r (v := .bool _) rfl rfl ?_
   exact ⟨rfl, H.only⟩
  ·refine k_seq ?_
   refine k_sg ?_
   refine s_run rfl rfl (rmi rfl) ?_
   refine s_run rfl rfl (rms rfl) ?_
   refine s_run rfl rfl (r_len rfl Try.underlying25) ?_
   refine s_run rfl rfl (r_lssT rfl rfl (by omega)) ?_
   refine k_nc ?_
   refine k_t rfl ?_
   refine k_skip ?_
   refine c_norm ?_
   refine k_seq ?_
   refine k_b ?_
   refine k_sg ?_
   refine s_run rfl rfl (rms rfl) ?_
   refine s_run rfl rfl (rmi rfl) ?_
   refine s_run rfl rfl (r_ix1o (i := i) rfl rfl (by omega) (by omega) Try.underlying25 sz3) ?_
   refine s_run rfl rfl (r_lr H rfl cy (by simp) ag3) ?_
   refine s_run rfl rfl (rmi rfl) ?_
   refine s_run rfl rfl (r_eqlF rfl rfl (by omega)) ?_
   refine k_nc ?_
   refine k_f rfl ?_
   refine k_skip ?_
   refine b_norm ?_
   refine c_norm ?_
   refine k_rg ?_
   refine s_run rfl rfl (rmi rfl) ?_
   refine s_run rfl rfl (r_add rfl rfl (wI (by omega))) ?_
   refine s_run rfl rfl (rai rfl) ?_
   refine k_nil ?_
   refine c_round ?_
   refine ⟨_, _, ?_, rfl, i + 1, by omega, rfl, fun k u hk hu => ?_, rfl, rfl, rfl, H⟩
   ·omega
   ·by_cases e2 : k = i
    ·subst e2; rw [hy] at hu; injection hu with hu; subst hu; exact e
    ·exact hlo k u (by omega) hu
 ·obtain rfl : i = n := by omega
  obtain ⟨f, rfl⟩ := live3 f0 f1 f5
  clear f0 f1 f5
  rw [decide_eq_false (fun h => by
   obtain ⟨k, hk, e⟩ := List.mem_iff_getElem.1 h
   exact hlo k x (by omega) (by rw [List.getElem?_eq_getElem hk, e]) rfl)]
  refine k_seq ?_
  refine k_sg ?_
  refine s_run rfl rfl (rmi rfl) ?_
  refine s_run rfl rfl (rms rfl) ?_
  refine s_run rfl rfl (r_len rfl Try.underlying25) ?_
  refine s_run rfl rfl (r_lssF rfl rfl (by omega)) ?_
  refine k_nc ?_
  refine k_f rfl ?_
  refine k_exit ?_
  refine c_exit ?_
  refine c_exit ?_
  refine b_hit ?_
  refine c_norm ?_
  refine k_sg ?_
  refine s_run rfl rfl (rab rfl) ?_
  refine k_nc ?_
  refine k_ret ?_
  refine fin1r (v := .bool _) rfl rfl ?_
  exact ⟨rfl, H.only⟩
theorem dSorted (A : Option Addr) (n c : Nat) (l : List Int) (w : World) (hS : Sees (Value.int .i64) w [] A l) (hl : l.length = n) (hn : n ≤ 1000000) :
  Calls Try.prog 37 [.slice A n c].toArray w fun e w' => ∃ A' c', e = .returned (.slice A' (Cn.sorted l).length c') ∧ Sees (Value.int .i64) w' [] A' (Cn.sorted l) ∧ Only [] w w' := by
 have H := Heap.nil w
 refine k_in (N := 63) Try.func37 rfl rfl rfl ?_
 refine k_sg ?_
 refine s_run rfl rfl (ras rfl) ?_
 refine k_nc ?_
 refine k_sg ?_
 refine s_run rfl rfl (ras rfl) ?_
 refine k_nc ?_
 refine k_seq ?_
 refine k_sg ?_
 refine s_run rfl rfl (rai rfl) ?_
 refine k_nc ?_
 refine k_b ?_
 refine k_loop (fun z f W => ∃ (i : Nat) (OA : Option Addr) (oc : Nat) (out : List Int), i ≤ n ∧ z = n - i ∧ out = Cn.sorted (l.take i) ∧ Sees (Value.int .i64) W [] OA out ∧ out.length ≤ oc ∧ f 0 = .slice A n c ∧ f 3 = .slice OA out.length oc ∧ f 4 = .int .i64 i ∧ Heap w [] [] W) n ⟨0, none, 0, [], by omega, rfl, by simp [Cn.sorted], Sees.nil, by simp, rfl, rfl, rfl, H⟩ ?_
 clear H
 rintro z f W ⟨i, OA, oc, out, hi, rfl, hout, hSo, hoc, f0, f3, f4, HB⟩
 have hol : out.length ≤ i := by rw [hout]; exact Nat.le_trans (Cn.sorted_len _) (by rw [List.length_take]; omega)
 have H := Heap.nil W
 by_cases hil : i < n
 ·obtain ⟨x, hx⟩ : ∃ x, l[i]? = some x := ⟨_, List.getElem?_eq_getElem (by omega)⟩
  obtain ⟨b, o, rfl, _, hrd0⟩ := hS (by omega)
  have hrd := hrd0.later HB.only (by simp)
  have cx := hrd _ _ hx
  have hst2 : Cn.sorted (l.take (i + 1)) = Cn.ins out x := by rw [Cn.sorted_snoc hx, ← hout]
  obtain ⟨f, rfl⟩ := live3 f0 f3 f4
  clear f0 f3 f4
  refine k_seq ?_
  refine k_sg ?_
  refine s_run rfl rfl (rmi rfl) ?_
  refine s_run rfl rfl (rms rfl) ?_
  refine s_run rfl rfl (r_len rfl Try.underlying25) ?_
  refine s_run rfl rfl (r_lssT rfl rfl (by omega)) ?_
  refine k_nc ?_
  refine k_t rfl ?_
  refine k_skip ?_
  refine c_norm ?_
  refine k_seq ?_
  refine k_b ?_
  refine k_sg ?_
  refine s_run rfl rfl (rai rfl) ?_
  refine k_nc ?_
  refine k_seq ?_
  refine k_b ?_
  refine k_loop (fun z f W2 => ∃ (j : Nat), j ≤ out.length ∧ z = out.length - j ∧ (∀ k y, k < j → out[k]? = some y → y < x) ∧ f 0 = .slice (some ⟨b, o, none⟩) n c ∧ f 3 = .slice OA out.length oc ∧ f 4 = .int .i64 i ∧ f 5 = .int .i64 j ∧ Heap W [] [] W2) out.length ⟨0, by omega, rfl, by omega, rfl, rfl, rfl, rfl, H⟩ ?_
  clear H
  rintro z f W2 ⟨j, hj, rfl, hlo, f0, f3, f4, f5, H⟩
  have hp := Cn.ins_at out x j hj hlo
  have hS2 := hSo.slo j hoc
  obtain ⟨f, rfl⟩ := live4 f0 f3 f4 f5
  clear f0 f3 f4 f5
  by_cases hjl : j < out.length
  ·obtain ⟨y, hy⟩ : ∃ y, out[j]? = some y := ⟨_, List.getElem?_eq_getElem hjl⟩
   obtain ⟨b2, o2, rfl, hb2, hrd2⟩ := hSo (by omega)
   have cy := hrd2 _ _ hy
   by_cases hyx : y < x
   ·refine k_seq ?_
    refine k_seq ?_
    refine k_q mixed (by kernel_rfl) H ?_
    refine q_run rfl rfl (fun _ H => r_mv (v := .int _ _) rfl) ?_
    refine q_run rfl rfl (fun _ H => r_mv (v := .slice _ _ _) rfl) ?_
    refine q_run rfl rfl (fun _ H => r_len rfl Try.underlying25) ?_
    refine q_run rfl rfl (fun _ H => r_lssT rfl rfl (by omega)) ?_
    refine q_run rfl rfl (fun _ H => r_mv (v := .bool _) rfl) ?_
    refine q_run rfl (g_on 17 (by kernel_rfl) rfl) (fun _ H => r_mv (v := .slice _ _ _) rfl) ?_
    refine q_run rfl (g_on 17 (by kernel_rfl) rfl) (fun _ H => r_mv (v := .int _ _) rfl) ?_
    refine q_run rfl (g_on 17 (by kernel_rfl) rfl) (fun _ H => r_ix1o (i := j) rfl rfl (by omega) (by omega) Try.underlying25 sz3) ?_
    refine q_run rfl (g_on 17 (by kernel_rfl) rfl) (fun _ H => r_lr H rfl cy (by simp) ag3) ?_
    refine q_run rfl (g_on 17 (by kernel_rfl) rfl) (fun _ H => r_mv (v := .slice _ _ _) rfl) ?_
    refine q_run rfl (g_on 17 (by kernel_rfl) rfl) (fun _ H => r_mv (v := .int _ _) rfl) ?_
    refine q_run rfl (g_on 17 (by kernel_rfl) rfl) (fun _ H => r_ix1o (i := i) rfl rfl (by omega) (by omega) Try.underlying25 sz3) ?_
    refine q_run rfl (g_on 17 (by kernel_rfl) rfl) (fun _ H => r_lr H rfl cx (by simp) ag3) ?_
    refine q_run rfl (g_on 17 (by kernel_rfl) rfl) (fun _ H => r_lssT rfl rfl (by omega)) ?_
    refine q_run rfl rfl (fun _ H => r_pkT (v := .bool _) rfl rfl) ?_
    refine q_nil ?_
    intro _ H'; clear H; have H := H'; clear H'
    refine c_norm ?_
    refine k_t rfl ?_
    refine k_skip ?_
    refine c_norm ?_
    refine k_b ?_
    refine k_rg ?_
    refine s_run rfl rfl (rmi rfl) ?_
    refine s_run rfl rfl (r_add rfl rfl (wI (by omega))) ?_
    refine s_run rfl rfl (rai rfl) ?_
    refine k_nil ?_
    refine b_norm ?_
    refine c_round ?_
    refine ⟨_, _, ?_, rfl, j + 1, by omega, rfl, fun k u hk hu => ?_, rfl, rfl, rfl, rfl, H⟩
    ·omega
    ·by_cases e : k = j
     ·subst e; rw [hy] at hu; injection hu with hu; subst hu; exact hyx
     ·exact hlo k u (by omega) hu
   ·replace hp := hp (fun u hu => by rw [hy] at hu; injection hu with hu; subst hu; exact hyx)
    by_cases exy : y = x
    ·rw [if_pos (by rw [hy, exy])] at hp
     refine k_seq ?_
     refine k_seq ?_
     refine k_q mixed (by kernel_rfl) H ?_
     refine q_run rfl rfl (fun _ H => r_mv (v := .int _ _) rfl) ?_
     refine q_run rfl rfl (fun _ H => r_mv (v := .slice _ _ _) rfl) ?_
     refine q_run rfl rfl (fun _ H => r_len rfl Try.underlying25) ?_
     refine q_run rfl rfl (fun _ H => r_lssT rfl rfl (by omega)) ?_
     refine q_run rfl rfl (fun _ H => r_mv (v := .bool _) rfl) ?_
     refine q_run rfl (g_on 17 (by kernel_rfl) rfl) (fun _ H => r_mv (v := .slice _ _ _) rfl) ?_
     refine q_run rfl (g_on 17 (by kernel_rfl) rfl) (fun _ H => r_mv (v := .int _ _) rfl) ?_
     refine q_run rfl (g_on 17 (by kernel_rfl) rfl) (fun _ H => r_ix1o (i := j) rfl rfl (by omega) (by omega) Try.underlying25 sz3) ?_
     refine q_run rfl (g_on 17 (by kernel_rfl) rfl) (fun _ H => r_lr H rfl cy (by simp) ag3) ?_
     refine q_run rfl (g_on 17 (by kernel_rfl) rfl) (fun _ H => r_mv (v := .slice _ _ _) rfl) ?_
     refine q_run rfl (g_on 17 (by kernel_rfl) rfl) (fun _ H => r_mv (v := .int _ _) rfl) ?_
     refine q_run rfl (g_on 17 (by kernel_rfl) rfl) (fun _ H => r_ix1o (i := i) rfl rfl (by omega) (by omega) Try.underlying25 sz3) ?_
     refine q_run rfl (g_on 17 (by kernel_rfl) rfl) (fun _ H => r_lr H rfl cx (by simp) ag3) ?_
     refine q_run rfl (g_on 17 (by kernel_rfl) rfl) (fun _ H => r_lssF rfl rfl (by omega)) ?_
     refine q_run rfl rfl (fun _ H => r_pkT (v := .bool _) rfl rfl) ?_
     refine q_nil ?_
     intro _ H'; clear H; have H := H'; clear H'
     refine c_norm ?_
     refine k_f rfl ?_
     refine k_exit ?_
     refine c_exit ?_
     refine c_exit ?_
     refine b_hit ?_
     refine c_norm ?_
     refine k_seq ?_
     refine k_seq ?_
     refine k_q mixed (by kernel_rfl) H ?_
     refine q_run rfl rfl (fun _ H => r_mv (v := .int _ _) rfl) ?_
     refine q_run rfl rfl (fun _ H => r_mv (v := .slice _ _ _) rfl) ?_
     refine q_run rfl rfl (fun _ H => r_len rfl Try.underlying25) ?_
     refine q_run rfl rfl (fun _ H => r_lssT rfl rfl (by omega)) ?_
     refine q_run rfl rfl (fun _ H => r_mv (v := .bool _) rfl) ?_
     refine q_run rfl (g_on 34 (by kernel_rfl) rfl) (fun _ H => r_mv (v := .slice _ _ _) rfl) ?_
     refine q_run rfl (g_on 34 (by kernel_rfl) rfl) (fun _ H => r_mv (v := .int _ _) rfl) ?_
     refine q_run rfl (g_on 34 (by kernel_rfl) rfl) (fun _ H => r_ix1o (i := j) rfl rfl (by omega) (by omega) Try.underlying25 sz3) ?_
     refine q_run rfl (g_on 34 (by kernel_rfl) rfl) (fun _ H => r_lr H rfl cy (by simp) ag3) ?_
     refine q_run rfl (g_on 34 (by kernel_rfl) rfl) (fun _ H => r_mv (v := .slice _ _ _) rfl) ?_
     refine q_run rfl (g_on 34 (by kernel_rfl) rfl) (fun _ H => r_mv (v := .int _ _) rfl) ?_
     refine q_run rfl (g_on 34 (by kernel_rfl) rfl) (fun _ H => r_ix1o (i := i) rfl rfl (by omega) (by omega) Try.underlying25 sz3) ?_
     refine q_run rfl (g_on 34 (by kernel_rfl) rfl) (fun _ H => r_lr H rfl cx (by simp) ag3) ?_
     refine q_run rfl (g_on 34 (by kernel_rfl) rfl) (fun _ H => r_eqlT rfl rfl (by omega)) ?_
     refine q_run rfl rfl (fun _ H => r_pkT (v := .bool _) rfl rfl) ?_
     refine q_nil ?_
     intro _ H'; clear H; have H := H'; clear H'
     refine c_norm ?_
     refine k_t rfl ?_
     refine k_exit ?_
     refine c_exit ?_
     refine b_hit ?_
     refine c_norm ?_
     refine k_rg ?_
     refine s_run rfl rfl (rmi rfl) ?_
     refine s_run rfl rfl (r_add rfl rfl (wI (by omega))) ?_
     refine s_run rfl rfl (rai rfl) ?_
     refine k_nil ?_
     refine c_round ?_
     exact ⟨_, _, by omega, rfl, i + 1, _, oc, out, by omega, rfl, by rw [hst2, hp], hSo.later H.only (by simp), hoc, rfl, rfl, rfl, HB.same H.only⟩
    ·rw [if_neg (by rw [hy]; intro h2; injection h2 with h2; exact exy h2)] at hp
     have e3 : out.take j ++ [x] ++ out.drop j = Cn.ins out x := by rw [hp]; simp
     have hln : j + 1 + (0 + (out.length - j)) = (Cn.ins out x).length := by rw [hp]; simp; omega
     refine k_seq ?_
     refine k_seq ?_
     refine k_q mixed (by kernel_rfl) H ?_
     refine q_run rfl rfl (fun _ H => r_mv (v := .int _ _) rfl) ?_
     refine q_run rfl rfl (fun _ H => r_mv (v := .slice _ _ _) rfl) ?_
     refine q_run rfl rfl (fun _ H => r_len rfl Try.underlying25) ?_
     refine q_run rfl rfl (fun _ H => r_lssT rfl rfl (by omega)) ?_
     refine q_run rfl rfl (fun _ H => r_mv (v := .bool _) rfl) ?_
     refine q_run rfl (g_on 17 (by kernel_rfl) rfl) (fun _ H => r_mv (v := .slice _ _ _) rfl) ?_
     refine q_run rfl (g_on 17 (by kernel_rfl) rfl) (fun _ H => r_mv (v := .int _ _) rfl) ?_
     refine q_run rfl (g_on 17 (by kernel_rfl) rfl) (fun _ H => r_ix1o (i := j) rfl rfl (by omega) (by omega) Try.underlying25 sz3) ?_
     refine q_run rfl (g_on 17 (by kernel_rfl) rfl) (fun _ H => r_lr H rfl cy (by simp) ag3) ?_
     refine q_run rfl (g_on 17 (by kernel_rfl) rfl) (fun _ H => r_mv (v := .slice _ _ _) rfl) ?_
     refine q_run rfl (g_on 17 (by kernel_rfl) rfl) (fun _ H => r_mv (v := .int _ _) rfl) ?_
     refine q_run rfl (g_on 17 (by kernel_rfl) rfl) (fun _ H => r_ix1o (i := i) rfl rfl (by omega) (by omega) Try.underlying25 sz3) ?_
     refine q_run rfl (g_on 17 (by kernel_rfl) rfl) (fun _ H => r_lr H rfl cx (by simp) ag3) ?_
     refine q_run rfl (g_on 17 (by kernel_rfl) rfl) (fun _ H => r_lssF rfl rfl (by omega)) ?_
     refine q_run rfl rfl (fun _ H => r_pkT (v := .bool _) rfl rfl) ?_
     refine q_nil ?_
     intro _ H'; clear H; have H := H'; clear H'
     refine c_norm ?_
     refine k_f rfl ?_
     refine k_exit ?_
     refine c_exit ?_
     refine c_exit ?_
     refine b_hit ?_
     refine c_norm ?_
     refine k_seq ?_
     refine k_seq ?_
     refine k_q mixed (by kernel_rfl) H ?_
     refine q_run rfl rfl (fun _ H => r_mv (v := .int _ _) rfl) ?_
     refine q_run rfl rfl (fun _ H => r_mv (v := .slice _ _ _) rfl) ?_
     refine q_run rfl rfl (fun _ H => r_len rfl Try.underlying25) ?_
     refine q_run rfl rfl (fun _ H => r_lssT rfl rfl (by omega)) ?_
     refine q_run rfl rfl (fun _ H => r_mv (v := .bool _) rfl) ?_
     refine q_run rfl (g_on 34 (by kernel_rfl) rfl) (fun _ H => r_mv (v := .slice _ _ _) rfl) ?_
     refine q_run rfl (g_on 34 (by kernel_rfl) rfl) (fun _ H => r_mv (v := .int _ _) rfl) ?_
     refine q_run rfl (g_on 34 (by kernel_rfl) rfl) (fun _ H => r_ix1o (i := j) rfl rfl (by omega) (by omega) Try.underlying25 sz3) ?_
     refine q_run rfl (g_on 34 (by kernel_rfl) rfl) (fun _ H => r_lr H rfl cy (by simp) ag3) ?_
     refine q_run rfl (g_on 34 (by kernel_rfl) rfl) (fun _ H => r_mv (v := .slice _ _ _) rfl) ?_
     refine q_run rfl (g_on 34 (by kernel_rfl) rfl) (fun _ H => r_mv (v := .int _ _) rfl) ?_
     refine q_run rfl (g_on 34 (by kernel_rfl) rfl) (fun _ H => r_ix1o (i := i) rfl rfl (by omega) (by omega) Try.underlying25 sz3) ?_
     refine q_run rfl (g_on 34 (by kernel_rfl) rfl) (fun _ H => r_lr H rfl cx (by simp) ag3) ?_
     refine q_run rfl (g_on 34 (by kernel_rfl) rfl) (fun _ H => r_eqlF rfl rfl (by omega)) ?_
     refine q_run rfl rfl (fun _ H => r_pkT (v := .bool _) rfl rfl) ?_
     refine q_nil ?_
     intro _ H'; clear H; have H := H'; clear H'
     refine c_norm ?_
     refine k_f rfl ?_
     refine k_skip ?_
     refine c_norm ?_
     refine k_sg ?_
     refine s_bs0 1 (by omega) H rfl Try.underlying25 inf3 ?_
     intro _ _ H'; clear H; have H := H'; clear H'
     refine s_run rfl rfl (rms rfl) ?_
     refine s_run rfl rfl (rmi rfl) ?_
     refine s_run rfl rfl (r_sloA (i := j) rfl rfl rfl (by omega) Try.underlying25 sz3) ?_
     refine s_apps (enc := (Value.int .i64)) (xs := []) H 0 rfl rfl rfl rfl (hS2) ((by rw [List.length_drop])) (fun _ => rfl) (by omega) Try.underlying25 inf3 rfl ?_
     intro _ _ _ hA H'; simp only [List.set_cons_zero, List.set_cons_succ, List.take_succ_cons, List.take_zero, List.drop_succ_cons, List.drop_zero, List.cons_append, List.nil_append, List.append_nil, List.length_cons, List.length_nil, Nat.reduceAdd] at H'; clear H; have H := H'; clear H'
     refine s_run rfl rfl (ras rfl) ?_
     refine k_nc ?_
     refine k_trF mixed ?_; have H' := H.drew; clear H; have H := H'; clear H'
     refine tqh 0 rfl rfl rfl (fun _ hS => r_mv (v := .slice _ _ _) rfl) trivial ?_
     refine tqh 1 rfl rfl rfl (fun _ hS => r_mv (v := .int _ _) rfl) trivial ?_
     refine tqh 2 rfl rfl rfl (fun _ hS => r_mv (v := .int _ _) rfl) trivial ?_
     refine tqh 3 rfl rfl rfl (fun _ hS => r_shm (j := j) (j2 := j) rfl rfl rfl rfl rfl (by omega) (by omega) Try.underlying25 sz3) trivial ?_
     refine tqh 4 rfl rfl rfl (fun _ hS => r_mv (v := .slice _ _ _) rfl) trivial ?_
     refine tqh 5 rfl rfl rfl (fun _ hS => r_mv (v := .int _ _) rfl) trivial ?_
     refine tqh 6 rfl rfl rfl (fun _ hS => r_ix1o (i := i) rfl rfl (by omega) (by omega) Try.underlying25 sz3) trivial ?_
     refine tqh 10 rfl rfl rfl (fun _ hS => r_mv (v := .slice _ _ _) rfl) trivial ?_
     refine t_up1 7 (by kernel_rfl) ?_
     refine up_mk rfl ?_
     refine s_run rfl rfl (r_lr H rfl cx (by simp) ag3) ?_
     refine k_nil ?_
     refine t_on trivial ?_
     refine t_up1 8 (by kernel_rfl) ?_
     refine up_mk rfl ?_
     refine s_bsO (enc := (Value.int .i64)) (zs := [x]) H rfl rfl rfl (by omega) (by kernel_rfl) Try.underlying25 inf3 ?_
     intro q5 _ H'; clear H; have H := H'; clear H'
     refine k_nil ?_
     refine t_on trivial ?_
     refine t_up1 9 (by kernel_rfl) ?_
     refine up_mk rfl ?_
     refine s_apG (enc := (Value.int .i64)) H ((hSo.later H.only (by simp)).head j) ((by rw [List.length_take]; omega)) ((H.own_sees 0 rfl)) ((show ([x] : List Int).length = 1 from rfl)) (by omega) rfl rfl rfl (fun _ => rfl) (by omega) Try.underlying25 inf3 rfl ?_
     intro _ _ _ H'; clear H; have H := H'; clear H'
     refine k_nil ?_
     refine t_on trivial ?_
     refine t_up1 11 (by kernel_rfl) ?_
     refine up_mk rfl ?_
     refine s_apW (enc := (Value.int .i64)) H 0 rfl rfl rfl rfl ((H.own_sees 2 rfl)) ((by simp)) (fun _ => rfl) (by omega) Try.underlying25 inf3 rfl ?_
     intro A2 c9 _ H'; simp only [List.set_cons_zero, List.set_cons_succ, List.take_succ_cons, List.take_zero, List.drop_succ_cons, List.drop_zero, List.cons_append, List.nil_append, List.append_nil, List.length_cons, List.length_nil, Nat.reduceAdd] at H'; clear H; have H := H'; clear H'
     refine k_nil ?_
     refine t_on trivial ?_
     refine tqh 12 rfl rfl rfl (fun _ hS => r_as (v := .slice _ _ _) rfl) trivial ?_
     refine t_done (by kernel_rfl) ?_
     refine b_norm ?_
     refine c_norm ?_
     refine k_rg ?_
     refine s_run rfl rfl (rmi rfl) ?_
     refine s_run rfl rfl (r_add rfl rfl (wI (by omega))) ?_
     refine s_run rfl rfl (rai rfl) ?_
     refine k_nil ?_
     refine c_round ?_
     rw [e3, hln] at H; exact ⟨_, _, by omega, rfl, i + 1, A2, c9, _, by omega, rfl, hst2.symm, own_seesC H 0 rfl, own_cap H 0 rfl, rfl, by rw [← hln]; rfl, rfl, HB.same H.only⟩
  ·obtain rfl : j = out.length := by omega
   replace hp := hp (fun u hu => by rw [List.getElem?_eq_none (Nat.le_refl _)] at hu; cases hu)
   rw [if_neg (by rw [List.getElem?_eq_none (Nat.le_refl _)]; simp)] at hp
   have e3 : out.take out.length ++ [x] ++ out.drop out.length = Cn.ins out x := by rw [hp]; simp
   have hln : out.length + 1 + (0 + (out.length - out.length)) = (Cn.ins out x).length := by rw [hp]; simp
   refine k_seq ?_
   refine k_seq ?_
   refine k_q mixed (by kernel_rfl) H ?_
   refine q_run rfl rfl (fun _ H => r_mv (v := .int _ _) rfl) ?_
   refine q_run rfl rfl (fun _ H => r_mv (v := .slice _ _ _) rfl) ?_
   refine q_run rfl rfl (fun _ H => r_len rfl Try.underlying25) ?_
   refine q_run rfl rfl (fun _ H => r_lssF rfl rfl (by omega)) ?_
   refine q_run rfl rfl (fun _ H => r_mv (v := .bool _) rfl) ?_
   refine q_off rfl (g_off 17 (by kernel_rfl) rfl rfl) ?_
   refine q_off rfl (g_off 17 (by kernel_rfl) rfl rfl) ?_
   refine q_off rfl (g_off 17 (by kernel_rfl) rfl rfl) ?_
   refine q_off rfl (g_off 17 (by kernel_rfl) rfl rfl) ?_
   refine q_off rfl (g_off 17 (by kernel_rfl) rfl rfl) ?_
   refine q_off rfl (g_off 17 (by kernel_rfl) rfl rfl) ?_
   refine q_off rfl (g_off 17 (by kernel_rfl) rfl rfl) ?_
   refine q_off rfl (g_off 17 (by kernel_rfl) rfl rfl) ?_
   refine q_off rfl (g_off 17 (by kernel_rfl) rfl rfl) ?_
   refine q_run rfl rfl (fun _ H => r_pkF (v := .bool _) rfl rfl) ?_
   refine q_nil ?_
   intro _ H'; clear H; have H := H'; clear H'
   refine c_norm ?_
   refine k_f rfl ?_
   refine k_exit ?_
   refine c_exit ?_
   refine c_exit ?_
   refine b_hit ?_
   refine c_norm ?_
   refine k_seq ?_
   refine k_seq ?_
   refine k_q mixed (by kernel_rfl) H ?_
   refine q_run rfl rfl (fun _ H => r_mv (v := .int _ _) rfl) ?_
   refine q_run rfl rfl (fun _ H => r_mv (v := .slice _ _ _) rfl) ?_
   refine q_run rfl rfl (fun _ H => r_len rfl Try.underlying25) ?_
   refine q_run rfl rfl (fun _ H => r_lssF rfl rfl (by omega)) ?_
   refine q_run rfl rfl (fun _ H => r_mv (v := .bool _) rfl) ?_
   refine q_off rfl (g_off 34 (by kernel_rfl) rfl rfl) ?_
   refine q_off rfl (g_off 34 (by kernel_rfl) rfl rfl) ?_
   refine q_off rfl (g_off 34 (by kernel_rfl) rfl rfl) ?_
   refine q_off rfl (g_off 34 (by kernel_rfl) rfl rfl) ?_
   refine q_off rfl (g_off 34 (by kernel_rfl) rfl rfl) ?_
   refine q_off rfl (g_off 34 (by kernel_rfl) rfl rfl) ?_
   refine q_off rfl (g_off 34 (by kernel_rfl) rfl rfl) ?_
   refine q_off rfl (g_off 34 (by kernel_rfl) rfl rfl) ?_
   refine q_off rfl (g_off 34 (by kernel_rfl) rfl rfl) ?_
   refine q_run rfl rfl (fun _ H => r_pkF (v := .bool _) rfl rfl) ?_
   refine q_nil ?_
   intro _ H'; clear H; have H := H'; clear H'
   refine c_norm ?_
   refine k_f rfl ?_
   refine k_skip ?_
   refine c_norm ?_
   refine k_sg ?_
   refine s_bs0 1 (by omega) H rfl Try.underlying25 inf3 ?_
   intro _ _ H'; clear H; have H := H'; clear H'
   refine s_run rfl rfl (rms rfl) ?_
   refine s_run rfl rfl (rmi rfl) ?_
   refine s_run rfl rfl (r_sloA (i := out.length) rfl rfl rfl (by omega) Try.underlying25 sz3) ?_
   refine s_apps (enc := (Value.int .i64)) (xs := []) H 0 rfl rfl rfl rfl (hS2) ((by rw [List.length_drop])) (fun _ => rfl) (by omega) Try.underlying25 inf3 rfl ?_
   intro _ _ _ hA H'; simp only [List.set_cons_zero, List.set_cons_succ, List.take_succ_cons, List.take_zero, List.drop_succ_cons, List.drop_zero, List.cons_append, List.nil_append, List.append_nil, List.length_cons, List.length_nil, Nat.reduceAdd] at H'; clear H; have H := H'; clear H'
   refine s_run rfl rfl (ras rfl) ?_
   refine k_nc ?_
   refine k_trF mixed ?_; have H' := H.drew; clear H; have H := H'; clear H'
   refine tqh 0 rfl rfl rfl (fun _ hS => r_mv (v := .slice _ _ _) rfl) trivial ?_
   refine tqh 1 rfl rfl rfl (fun _ hS => r_mv (v := .int _ _) rfl) trivial ?_
   refine tqh 2 rfl rfl rfl (fun _ hS => r_mv (v := .int _ _) rfl) trivial ?_
   refine tqh 3 rfl rfl rfl (fun _ hS => r_shm (j := out.length) (j2 := out.length) rfl rfl rfl rfl rfl (by omega) (by omega) Try.underlying25 sz3) trivial ?_
   refine tqh 4 rfl rfl rfl (fun _ hS => r_mv (v := .slice _ _ _) rfl) trivial ?_
   refine tqh 5 rfl rfl rfl (fun _ hS => r_mv (v := .int _ _) rfl) trivial ?_
   refine tqh 6 rfl rfl rfl (fun _ hS => r_ix1o (i := i) rfl rfl (by omega) (by omega) Try.underlying25 sz3) trivial ?_
   refine tqh 10 rfl rfl rfl (fun _ hS => r_mv (v := .slice _ _ _) rfl) trivial ?_
   refine t_up1 7 (by kernel_rfl) ?_
   refine up_mk rfl ?_
   refine s_run rfl rfl (r_lr H rfl cx (by simp) ag3) ?_
   refine k_nil ?_
   refine t_on trivial ?_
   refine t_up1 8 (by kernel_rfl) ?_
   refine up_mk rfl ?_
   refine s_bsO (enc := (Value.int .i64)) (zs := [x]) H rfl rfl rfl (by omega) (by kernel_rfl) Try.underlying25 inf3 ?_
   intro q5 _ H'; clear H; have H := H'; clear H'
   refine k_nil ?_
   refine t_on trivial ?_
   refine t_up1 9 (by kernel_rfl) ?_
   refine up_mk rfl ?_
   refine s_apG (enc := (Value.int .i64)) H ((hSo.later H.only (by simp)).head out.length) ((by rw [List.length_take]; omega)) ((H.own_sees 0 rfl)) ((show ([x] : List Int).length = 1 from rfl)) (by omega) rfl rfl rfl (fun _ => rfl) (by omega) Try.underlying25 inf3 rfl ?_
   intro _ _ _ H'; clear H; have H := H'; clear H'
   refine k_nil ?_
   refine t_on trivial ?_
   refine t_up1 11 (by kernel_rfl) ?_
   refine up_mk rfl ?_
   refine s_apW (enc := (Value.int .i64)) H 0 rfl rfl rfl rfl ((H.own_sees 2 rfl)) ((by simp)) (fun _ => rfl) (by omega) Try.underlying25 inf3 rfl ?_
   intro A2 c9 _ H'; simp only [List.set_cons_zero, List.set_cons_succ, List.take_succ_cons, List.take_zero, List.drop_succ_cons, List.drop_zero, List.cons_append, List.nil_append, List.append_nil, List.length_cons, List.length_nil, Nat.reduceAdd] at H'; clear H; have H := H'; clear H'
   refine k_nil ?_
   refine t_on trivial ?_
   refine tqh 12 rfl rfl rfl (fun _ hS => r_as (v := .slice _ _ _) rfl) trivial ?_
   refine t_done (by kernel_rfl) ?_
   refine b_norm ?_
   refine c_norm ?_
   refine k_rg ?_
   refine s_run rfl rfl (rmi rfl) ?_
   refine s_run rfl rfl (r_add rfl rfl (wI (by omega))) ?_
   refine s_run rfl rfl (rai rfl) ?_
   refine k_nil ?_
   refine c_round ?_
   rw [e3, hln] at H; exact ⟨_, _, by omega, rfl, i + 1, A2, c9, _, by omega, rfl, hst2.symm, own_seesC H 0 rfl, own_cap H 0 rfl, rfl, by rw [← hln]; rfl, rfl, HB.same H.only⟩
 ·obtain rfl : i = n := by omega
  obtain ⟨f, rfl⟩ := live3 f0 f3 f4
  clear f0 f3 f4
  have he : out = Cn.sorted l := by rw [hout, show l.take i = l by rw [← hl]; exact List.take_length]
  refine k_seq ?_
  refine k_sg ?_
  refine s_run rfl rfl (rmi rfl) ?_
  refine s_run rfl rfl (rms rfl) ?_
  refine s_run rfl rfl (r_len rfl Try.underlying25) ?_
  refine s_run rfl rfl (r_lssF rfl rfl (by omega)) ?_
  refine k_nc ?_
  refine k_f rfl ?_
  refine k_exit ?_
  refine c_exit ?_
  refine c_exit ?_
  refine b_hit ?_
  refine c_norm ?_
  refine k_sg ?_
  refine s_run rfl rfl (rms rfl) ?_
  refine s_run rfl rfl (ras rfl) ?_
  refine k_nc ?_
  refine k_ret ?_
  refine fin1r (v := .slice _ _ _) rfl rfl ?_
  rw [← he]
  exact ⟨OA, oc, rfl, hSo, HB.only⟩
end Go.Proofs.Ytlakbclnilakbaa
end

section
namespace Go.Proofs.Ytlakbclnilakbaa
section
open Go.ChangeShapes Go.WideShapes Go.Deep
variable {H : Type} {enc : TypeId × Value → H} {w : World} {base : Nat} {spare : Nat → Bool} {held : Bool}
theorem o_add {b o i : Nat} : (⟨b, o, none⟩ : Addr).add i = ⟨b, o + i, none⟩ := by
 unfold Addr.add; split
 ·subst_vars; rfl
 ·rfl
theorem o_sees {k : IntKind} {t e : TypeId} {fuel : Nat} {v : Value} {y : DataW H × List MemPlace} (ht : Try.prog.underlying t = some (.slice e)) (he : Try.prog.underlying e = some (.int k)) (hc : Try.prog.cellsOf e = 1)
  (h : DataW.trod enc Try.prog w base spare held fuel t [v] = some y) :
  ∃ A n c xs, v = .slice A n c ∧ Sees (Value.int k) w [] A xs ∧ xs.length = n ∧ n ≤ c ∧ c ≤ maxLen ∧ ∀ z ∈ xs, (Lit.int k z).wf = true := by
 rcases open_ints ht he hc h with ⟨hcs, _⟩ | ⟨x, l, c, zs, hcs, _, hl, hm, hz, _, hcell, hwf⟩
 ·injection hcs with hv _
  exact ⟨none, 0, 0, [], hv, Sees.nil, rfl, by omega, by decide, by simp⟩
 ·injection hcs with hv _
  have hzl : l ≤ zs.length := by rw [hz]; split <;> omega
  refine ⟨some x, l, c, zs.take l, hv, fun h0 => ?_, by simp; omega, hl, hm, fun z hz => hwf z (List.mem_of_mem_take hz)⟩
  obtain ⟨b, off, spot⟩ := x
  have h0' : 0 < l := by simp at h0; omega
  have hc0 := hcell 0 (by omega)
  have hspot : spot = none := by simpa [Addr.add] using World.cell?_spot hc0
  subst hspot
  refine ⟨b, off, rfl, by simp, fun j z hj => ?_⟩
  have hjl : j < l := by have := (List.getElem?_eq_some_iff.1 hj).1; simp at this; omega
  rw [List.getElem?_take_of_lt hjl] at hj
  have hc2 := hcell j (by omega)
  rw [o_add] at hc2
  rw [hc2]
  simp [List.getD, hj]
theorem o_list {α : Type} {Q : Nat → α → Prop} : ∀ n : Nat, (∀ i, i < n → ∃ x, Q i x) → ∃ l : List α, l.length = n ∧ ∀ i x, l[i]? = some x → Q i x
 | 0, _ => ⟨[], rfl, by simp⟩
 | n + 1, h => by
  obtain ⟨l, hl, hq⟩ := o_list n (fun i hi => h i (by omega))
  obtain ⟨x, hx⟩ := h n (by omega)
  refine ⟨l ++ [x], by simp [hl], fun i y hy => ?_⟩
  by_cases hi : i < l.length
  ·rw [List.getElem?_append_left hi] at hy; exact hq i y hy
  ·have hi2 : i < n + 1 := by have := (List.getElem?_eq_some_iff.1 hy).1; simp at this; omega
   obtain rfl : i = n := by omega
   rw [List.getElem?_append_right (by omega)] at hy
   simp [hl] at hy
   subst hy; exact hx
end
end Go.Proofs.Ytlakbclnilakbaa
end

section
namespace Go.Proofs.Ytlakbclnilakbaa
open Go.RowKit
structure CRow where
 A : Option Addr
 n : Nat
 c : Nat
 xs : List Int
def CRow.v (u : CRow) : Value := .slice u.A u.n u.c
structure CRowOk (w : World) (u : CRow) : Prop where
 s : Sees (Value.int .i64) w [] u.A u.xs
 l : u.xs.length = u.n
 m : u.n ≤ u.c ∧ u.c ≤ maxLen
 b : ∀ z ∈ u.xs, (Lit.int .i64 z).wf = true
def ScriptC (w : World) (A : Option Addr) (ops : List CRow) : Prop := Sees CRow.v w [] A ops ∧ ∀ op ∈ ops, CRowOk w op
theorem CRowOk.later {w W : World} {u : CRow} (h : CRowOk w u) (hO : Only [] w W) : CRowOk W u := ⟨h.s.later hO (by simp), h.l, h.m, h.b⟩
theorem ScriptC.later {w W : World} {A : Option Addr} {ops : List CRow} (h : ScriptC w A ops) (hO : Only [] w W) : ScriptC W A ops := ⟨h.1.later hO (by simp), fun op hop => (h.2 op hop).later hO⟩
section
open Go.ChangeShapes Go.WideShapes Go.Deep
variable {H : Type} {enc : TypeId × Value → H} {w : World} {base : Nat} {spare : Nat → Bool} {held : Bool}
set_option maxRecDepth 100000 in
theorem opens_C (W : World) {r : Reach} (b0 : Nat) (v : Value) (d : DataW H) (p : List MemPlace)
  (hv : Value.okWide Try.prog W r b0 69 v) (h : DataW.Trod enc Try.prog W base spare held 69 v d p) :
  ∃ x : Option Addr × Nat × Nat × List CRow, v = .slice x.1 x.2.1 x.2.2.1 ∧ (ScriptC W x.1 x.2.2.2 ∧ x.2.2.2.length = x.2.1 ∧ x.2.1 ≤ 9223372036854775807 ∧ x.2.1 ≤ x.2.2.1) := by
 obtain ⟨a, len, cap, rfl⟩ := okWide_slice Try.underlying69 hv
 obtain ⟨fuel, hf⟩ := h
 have c5 : Try.prog.cellsOf 25 = 1 := by kernel_rfl
 rcases open_slice Try.underlying69 hf with ⟨hcs, _⟩ | ⟨x, l, c, m, n, D, Pl, hcs, _, hl, hm, hmm, _, hx⟩
 ·simp [Value.cells] at hcs
  obtain ⟨rfl, rfl, rfl⟩ := hcs
  exact ⟨(none, 0, 0, []), rfl, ⟨Sees.nil, by simp⟩, rfl, by show (0 : Nat) ≤ _; omega, by show (0 : Nat) ≤ _; omega⟩
 ·simp [Value.cells] at hcs
  obtain ⟨rfl, rfl, rfl⟩ := hcs
  rw [c5] at hx
  have hlm : len ≤ m := by rw [hmm]; split <;> omega
  obtain ⟨ops, hol, hq⟩ := o_list (Q := fun i (op : CRow) => CRowOk W op ∧ W.cell? (x.add i) = some op.v) len (fun i hi => by
   obtain ⟨cs', hc, ht⟩ := hx i (by omega)
   obtain ⟨_, hcl, hat⟩ := World.cells?_some hc
   match cs', hcl with
   | [v0], _ =>
    obtain ⟨A1, m1, q1, bs1, e1, hs1, hb1, hmc1, hcm1, hw1⟩ := o_sees Try.underlying25 Try.underlying3 (by kernel_rfl) ht
    refine ⟨⟨A1, m1, q1, bs1⟩, ⟨hs1, hb1, ⟨hmc1, hcm1⟩, hw1⟩, ?_⟩
    have := hat (i := 0) (by decide)
    rw [Go.Deep.add_add, Nat.mul_one, Nat.add_zero] at this
    rw [this, e1]; rfl)
  refine ⟨(some x, len, cap, ops), rfl, ⟨fun h0 => ?_, fun op hop => ?_⟩, hol, by simp only [maxLen] at hm; show len ≤ _; omega, by show len ≤ cap; omega⟩
  ·have h00 : ops.length ≠ 0 := h0
   obtain ⟨op0, hop0⟩ : ∃ op, ops[0]? = some op := ⟨_, List.getElem?_eq_getElem (by omega)⟩
   obtain ⟨b, off, spot⟩ := x
   have hc0 := (hq 0 op0 hop0).2
   have hspot : spot = none := by simpa [Addr.add] using World.cell?_spot hc0
   subst hspot
   refine ⟨b, off, rfl, by simp, fun i op hi => ?_⟩
   have := (hq i op hi).2
   rw [o_add] at this
   exact this
  ·obtain ⟨i, hi, rfl⟩ := List.mem_iff_getElem.1 hop
   exact (hq i _ (List.getElem?_eq_getElem hi)).1
end
end Go.Proofs.Ytlakbclnilakbaa
end

section
namespace Go.Proofs.Ytlakbclnilakbaa
open Go.RowKit
set_option maxRecDepth 100000
set_option maxHeartbeats 4000000
def csOf (rs : List CRow) : List (List Int) := rs.map CRow.xs
theorem csOf_snoc {rs : List CRow} {i : Nat} {r : CRow} (h : rs[i]? = some r) : csOf (rs.take (i + 1)) = csOf (rs.take i) ++ [r.xs] := by
 rw [← tk_snoc h]; unfold csOf; rw [List.map_append]; rfl
/-- rows of rows that are read: few -/
structure CsOk (w : World) (A : Option Addr) (rs : List CRow) : Prop where
 S : ScriptC w A rs
 few : rs.length ≤ 30
 len : ∀ r ∈ rs, r.n ≤ 60
 bd : ∀ r ∈ rs, ∀ x ∈ r.xs, 0 ≤ x ∧ x ≤ 1099511627776
theorem CsOk.later {w W : World} {A : Option Addr} {rs : List CRow} (h : CsOk w A rs) (hO : Only [] w W) : CsOk W A rs := ⟨h.S.later hO, h.few, h.len, h.bd⟩
theorem CsOk.take {w : World} {A : Option Addr} {rs : List CRow} (h : CsOk w A rs) (i : Nat) : CsOk w A (rs.take i) :=
 ⟨⟨h.S.1.head i, fun r hr => h.S.2 r (List.mem_of_mem_take hr)⟩, by have := h.few; rw [List.length_take]; omega, fun r hr => h.len r (List.mem_of_mem_take hr), fun r hr => h.bd r (List.mem_of_mem_take hr)⟩
theorem dAge (A : Option Addr) (n c : Nat) (rs : List CRow) (a : Int) (w : World) (hS : CsOk w A rs) (hl : rs.length = n) :
  Calls Try.prog 38 [.slice A n c, .int .i64 a].toArray w fun e w' => e = .returned (.int .i64 (Cn.age (csOf rs) a)) ∧ Only [] w w' := by
 have hfew := hS.few
 have H := Heap.nil w
 refine k_in (N := 25) Try.func38 rfl rfl rfl ?_
 refine k_sg ?_
 refine s_run rfl rfl (rai rfl) ?_
 refine k_nc ?_
 refine k_sg ?_
 refine s_run rfl rfl (rai rfl) ?_
 refine k_nc ?_
 refine k_seq ?_
 refine k_sg ?_
 refine s_run rfl rfl (rms rfl) ?_
 refine s_run rfl rfl (r_len rfl Try.underlying69) ?_
 refine s_run rfl rfl (r_sub rfl rfl (wI (by omega))) ?_
 refine s_run rfl rfl (rai rfl) ?_
 refine k_nc ?_
 refine k_b ?_
 refine k_loop (fun z f W => ∃ (k m : Nat), m + k = n ∧ z = m ∧ Cn.age (csOf rs) a = k + Cn.age (csOf (rs.take m)) a ∧ f 0 = .slice A n c ∧ f 1 = .int .i64 a ∧ f 5 = .int .i64 k ∧ f 6 = .int .i64 ((m : Int) - 1) ∧ Heap w [] [] W) n ⟨0, n, rfl, rfl, by rw [← hl, List.take_length]; omega, rfl, rfl, rfl, rfl, H⟩ ?_
 clear H
 rintro z f W ⟨k, m, hm, hz, hag, f0, f1, f5, f6, H⟩
 replace hz := hz.symm
 subst hz
 cases m with
 | zero =>
  obtain ⟨f, rfl⟩ := live4 f0 f1 f5 f6
  clear f0 f1 f5 f6
  have e0 : Cn.age (csOf rs) a = k := by rw [hag]; simp [csOf, Cn.age, Cn.ageR]
  rw [e0]
  refine k_seq ?_
  refine k_sg ?_
  refine s_run rfl rfl (rmi rfl) ?_
  refine s_run rfl rfl (r_geqF rfl rfl (by omega)) ?_
  refine s_run rfl rfl (rmb rfl) ?_
  refine s_off rfl (g_off 12 (by kernel_rfl) rfl rfl) ?_
  refine s_off rfl (g_off 12 (by kernel_rfl) rfl rfl) ?_
  refine s_off rfl (g_off 12 (by kernel_rfl) rfl rfl) ?_
  refine s_off rfl (g_off 12 (by kernel_rfl) rfl rfl) ?_
  refine s_off rfl (g_off 12 (by kernel_rfl) rfl rfl) ?_
  refine s_off rfl (g_off 12 (by kernel_rfl) rfl rfl) ?_
  refine s_run rfl rfl (r_pkF (v := .bool _) rfl rfl) ?_
  refine k_nc ?_
  refine k_f rfl ?_
  refine k_exit ?_
  refine c_exit ?_
  refine c_exit ?_
  refine b_hit ?_
  refine c_norm ?_
  refine k_sg ?_
  refine s_run rfl rfl (rmi rfl) ?_
  refine s_run rfl rfl (rai rfl) ?_
  refine k_nc ?_
  refine k_ret ?_
  refine fin1r (v := .int _ _) rfl rfl ?_
  exact ⟨rfl, H.only⟩
 | succ m =>
  obtain ⟨r, hr⟩ : ∃ r, rs[m]? = some r := ⟨_, List.getElem?_eq_getElem (by omega)⟩
  have hrm := List.mem_of_getElem? hr
  obtain ⟨b, o, rfl, _, hrd⟩ := hS.S.1 (by omega)
  have cr := hrd _ _ hr
  have hrl := hS.len r hrm
  have hsn := csOf_snoc hr
  rw [hsn, Cn.age_snoc] at hag
  have hH := fun {W : World} (hO : Only [] w W) => dHas r.A r.n r.c r.xs a W ((hS.S.2 r hrm).s.later hO (by simp)) (hS.S.2 r hrm).l (by omega)
  have e6 : ((m + 1 : Nat) : Int) - 1 = m := by omega
  rw [e6] at f6
  obtain ⟨f, rfl⟩ := live4 f0 f1 f5 f6
  clear f0 f1 f5 f6
  by_cases hx : a ∈ r.xs
  ·rw [if_pos hx] at hag
   simp only [decide_eq_true hx] at hH
   refine k_seq ?_
   refine k_sg ?_
   refine s_run rfl rfl (rmi rfl) ?_
   refine s_run rfl rfl (r_geqT rfl rfl (by omega)) ?_
   refine s_run rfl rfl (rmb rfl) ?_
   refine s_run rfl (g_on 12 (by kernel_rfl) rfl) (rms rfl) ?_
   refine s_run rfl (g_on 12 (by kernel_rfl) rfl) (rmi rfl) ?_
   refine s_run rfl (g_on 12 (by kernel_rfl) rfl) (r_ix1o (i := m) rfl rfl (by omega) (by omega) Try.underlying69 sz25) ?_
   refine s_run rfl (g_on 12 (by kernel_rfl) rfl) (r_lr H rfl cr (by simp) ag25) ?_
   refine s_run rfl (g_on 12 (by kernel_rfl) rfl) (rmi rfl) ?_
   refine s_call (g_on 12 (by kernel_rfl) rfl) (hH H.only) (ca69 rfl) ?_
   rintro e W1 ⟨rfl, H'⟩
   refine ⟨_, rfl, ?_⟩
   have H := H.same H'; clear H'
   refine s_run rfl rfl (r_pkT (v := .bool _) rfl rfl) ?_
   refine k_nc ?_
   refine k_t rfl ?_
   refine k_skip ?_
   refine c_norm ?_
   refine k_seq ?_
   refine k_b ?_
   refine k_rg ?_
   refine s_run rfl rfl (rmi rfl) ?_
   refine s_run rfl rfl (r_add rfl rfl (wI (by omega))) ?_
   refine s_run rfl rfl (rai rfl) ?_
   refine k_nil ?_
   refine b_norm ?_
   refine c_norm ?_
   refine k_rg ?_
   refine s_run rfl rfl (rmi rfl) ?_
   refine s_run rfl rfl (r_sub rfl rfl (wI (by omega))) ?_
   refine s_run rfl rfl (rai rfl) ?_
   refine k_nil ?_
   refine c_round ?_
   exact ⟨_, _, by omega, rfl, k + 1, m, by omega, rfl, by omega, rfl, rfl, rfl, rfl, H⟩
  ·rw [if_neg hx] at hag
   simp only [decide_eq_false hx] at hH
   rw [hag]
   refine k_seq ?_
   refine k_sg ?_
   refine s_run rfl rfl (rmi rfl) ?_
   refine s_run rfl rfl (r_geqT rfl rfl (by omega)) ?_
   refine s_run rfl rfl (rmb rfl) ?_
   refine s_run rfl (g_on 12 (by kernel_rfl) rfl) (rms rfl) ?_
   refine s_run rfl (g_on 12 (by kernel_rfl) rfl) (rmi rfl) ?_
   refine s_run rfl (g_on 12 (by kernel_rfl) rfl) (r_ix1o (i := m) rfl rfl (by omega) (by omega) Try.underlying69 sz25) ?_
   refine s_run rfl (g_on 12 (by kernel_rfl) rfl) (r_lr H rfl cr (by simp) ag25) ?_
   refine s_run rfl (g_on 12 (by kernel_rfl) rfl) (rmi rfl) ?_
   refine s_call (g_on 12 (by kernel_rfl) rfl) (hH H.only) (ca69 rfl) ?_
   rintro e W1 ⟨rfl, H'⟩
   refine ⟨_, rfl, ?_⟩
   have H := H.same H'; clear H'
   refine s_run rfl rfl (r_pkT (v := .bool _) rfl rfl) ?_
   refine k_nc ?_
   refine k_f rfl ?_
   refine k_exit ?_
   refine c_exit ?_
   refine c_exit ?_
   refine b_hit ?_
   refine c_norm ?_
   refine k_sg ?_
   refine s_run rfl rfl (rmi rfl) ?_
   refine s_run rfl rfl (rai rfl) ?_
   refine k_nc ?_
   refine k_ret ?_
   refine fin1r (v := .int _ _) rfl rfl ?_
   exact ⟨rfl, H.only⟩
theorem dWithout (A : Option Addr) (n c : Nat) (l : List Int) (A2 : Option Addr) (n2 c2 : Nat) (l2 : List Int) (w : World) (hS : Sees (Value.int .i64) w [] A l) (hl : l.length = n) (hn : n ≤ 100000) (hS2 : Sees (Value.int .i64) w [] A2 l2) (hl2 : l2.length = n2) (hn2 : n2 ≤ 100000) :
  Calls Try.prog 71 [.slice A n c, .slice A2 n2 c2].toArray w fun e w' => ∃ A' c', e = .returned (.slice A' (Cn.without l l2).length c') ∧ Heap w [] [ownN 1 (.slice A' (Cn.without l l2).length c') (Cn.without l l2).length ((Cn.without l l2).map (Value.int .i64)) 3] w' := by
 have H := Heap.nil w
 have hsl := Cn.sorted_len l
 refine k_in (N := 31) Try.func71 rfl rfl rfl ?_
 refine k_sg ?_
 refine s_run rfl rfl (ras rfl) ?_
 refine k_nc ?_
 refine k_sg ?_
 refine s_run rfl rfl (ras rfl) ?_
 refine k_nc ?_
 refine k_sg ?_
 refine s_run rfl rfl (rms rfl) ?_
 refine s_call rfl (dSorted _ _ _ l _ hS hl (by omega)) (ca37 rfl) ?_
 rintro e W1 ⟨SA, sc, rfl, hSS, H'⟩
 refine ⟨_, rfl, ?_⟩
 have H := H.same H'; clear H'
 refine s_run rfl rfl (ras rfl) ?_
 refine k_nc ?_
 refine k_seq ?_
 refine k_sg ?_
 refine s_run rfl rfl (rai rfl) ?_
 refine k_nc ?_
 refine k_b ?_
 obtain ⟨WB, rfl⟩ : ∃ X, X = W1 := ⟨W1, rfl⟩
 have HB := H
 clear H
 have H := Heap.nil WB
 have hS3 := hS2.later HB.only (by simp)
 obtain ⟨s, hs⟩ : ∃ s, Cn.sorted l = s := ⟨_, rfl⟩
 unfold Cn.without
 rw [hs] at hsl hSS ⊢
 replace H := H.own_nil 1 3
 refine k_loop (fun z f W => ∃ (i : Nat) (OA : Option Addr) (oc : Nat) (out : List Int), i ≤ s.length ∧ z = s.length - i ∧ out = (s.take i).filter (fun a => decide (a ∉ l2)) ∧ f 1 = .slice A2 n2 c2 ∧ f 5 = .slice OA out.length oc ∧ f 6 = .slice SA s.length sc ∧ f 7 = .int .i64 i ∧ Heap WB [] [ownN 1 (.slice OA out.length oc) out.length (out.map (Value.int .i64)) 3] W) s.length ⟨0, none, 0, [], by omega, rfl, by simp, rfl, rfl, rfl, rfl, H⟩ ?_
 clear H
 rintro z f W ⟨i, OA, oc, out, hi, rfl, hout, f1, f5, f6, f7, H⟩
 have hol : out.length ≤ s.length := by rw [hout]; exact Nat.le_trans (List.length_filter_le _ _) (by rw [List.length_take]; omega)
 by_cases hil : i < s.length
 ·obtain ⟨x, hx⟩ : ∃ x, s[i]? = some x := ⟨_, List.getElem?_eq_getElem (by omega)⟩
  obtain ⟨b, o, rfl, _, hrd⟩ := hSS (by omega)
  have cx := hrd _ _ hx
  have hH := fun {W : World} (hO : Only [] WB W) => dHas A2 n2 c2 l2 x W (hS3.later hO (by simp)) hl2 (by omega)
  obtain ⟨f, rfl⟩ := live4 f1 f5 f6 f7
  clear f1 f5 f6 f7
  by_cases hm : x ∈ l2
  ·simp only [decide_eq_true hm] at hH
   have ho2 : (s.take (i + 1)).filter (fun a => decide (a ∉ l2)) = out := by
    rw [← tk_snoc hx, List.filter_append, ← hout]; simp [hm]
   refine k_seq ?_
   refine k_sg ?_
   refine s_run rfl rfl (rmi rfl) ?_
   refine s_run rfl rfl (rms rfl) ?_
   refine s_run rfl rfl (r_len rfl Try.underlying25) ?_
   refine s_run rfl rfl (r_lssT rfl rfl (by omega)) ?_
   refine k_nc ?_
   refine k_t rfl ?_
   refine k_skip ?_
   refine c_norm ?_
   refine k_seq ?_
   refine k_b ?_
   refine k_sg ?_
   refine s_run rfl rfl (rms rfl) ?_
   refine s_run rfl rfl (rms rfl) ?_
   refine s_run rfl rfl (rmi rfl) ?_
   refine s_run rfl rfl (r_ix1o (i := i) rfl rfl (by omega) (by omega) Try.underlying25 sz3) ?_
   refine s_run rfl rfl (r_lr H rfl cx (by simp) ag3) ?_
   refine s_call rfl (hH H.only) (ca69 rfl) ?_
   rintro e W1 ⟨rfl, H'⟩
   refine ⟨_, rfl, ?_⟩
   have H := H.same H'; clear H'
   refine s_run rfl rfl (r_notT rfl) ?_
   refine k_nc ?_
   refine k_f rfl ?_
   refine k_skip ?_
   refine b_norm ?_
   refine c_norm ?_
   refine k_rg ?_
   refine s_run rfl rfl (rmi rfl) ?_
   refine s_run rfl rfl (r_add rfl rfl (wI (by omega))) ?_
   refine s_run rfl rfl (rai rfl) ?_
   refine k_nil ?_
   refine c_round ?_
   exact ⟨_, _, by omega, rfl, i + 1, OA, oc, out, by omega, rfl, ho2.symm, rfl, rfl, rfl, rfl, H⟩
  ·simp only [decide_eq_false hm] at hH
   have ho2 : (s.take (i + 1)).filter (fun a => decide (a ∉ l2)) = out ++ [x] := by
    rw [← tk_snoc hx, List.filter_append, ← hout]; simp [hm]
   have hol2 : (out ++ [x]).length = out.length + 1 := by simp
   refine k_seq ?_
   refine k_sg ?_
   refine s_run rfl rfl (rmi rfl) ?_
   refine s_run rfl rfl (rms rfl) ?_
   refine s_run rfl rfl (r_len rfl Try.underlying25) ?_
   refine s_run rfl rfl (r_lssT rfl rfl (by omega)) ?_
   refine k_nc ?_
   refine k_t rfl ?_
   refine k_skip ?_
   refine c_norm ?_
   refine k_seq ?_
   refine k_b ?_
   refine k_sg ?_
   refine s_run rfl rfl (rms rfl) ?_
   refine s_run rfl rfl (rms rfl) ?_
   refine s_run rfl rfl (rmi rfl) ?_
   refine s_run rfl rfl (r_ix1o (i := i) rfl rfl (by omega) (by omega) Try.underlying25 sz3) ?_
   refine s_run rfl rfl (r_lr H rfl cx (by simp) ag3) ?_
   refine s_call rfl (hH H.only) (ca69 rfl) ?_
   rintro e W1 ⟨rfl, H'⟩
   refine ⟨_, rfl, ?_⟩
   have H := H.same H'; clear H'
   refine s_run rfl rfl (r_notF rfl) ?_
   refine k_nc ?_
   refine k_t rfl ?_
   refine k_rg ?_
   refine s_run rfl rfl (rms rfl) ?_
   refine s_run rfl rfl (rms rfl) ?_
   refine s_run rfl rfl (rmi rfl) ?_
   refine s_run rfl rfl (r_ix1o (i := i) rfl rfl (by omega) (by omega) Try.underlying25 sz3) ?_
   refine s_run rfl rfl (r_lr H rfl cx (by simp) ag3) ?_
   refine s_app1 (enc := (Value.int .i64)) H 0 rfl rfl rfl rfl rfl rfl rfl (by omega) Try.underlying25 inf3 rfl ?_
   intro _ An cn _ H'; simp only [List.set_cons_zero, List.set_cons_succ, List.take_succ_cons, List.take_zero, List.drop_succ_cons, List.drop_zero, List.cons_append, List.nil_append, List.append_nil, List.length_cons, List.length_nil, Nat.reduceAdd] at H'; clear H; have H := H'; clear H'
   refine s_run rfl rfl (ras rfl) ?_
   refine k_nil ?_
   refine b_norm ?_
   refine c_norm ?_
   refine k_rg ?_
   refine s_run rfl rfl (rmi rfl) ?_
   refine s_run rfl rfl (r_add rfl rfl (wI (by omega))) ?_
   refine s_run rfl rfl (rai rfl) ?_
   refine k_nil ?_
   refine c_round ?_
   exact ⟨_, _, by omega, rfl, i + 1, An, cn, out ++ [x], by omega, rfl, ho2.symm, rfl, by rw [hol2]; rfl, rfl, rfl, by rw [hol2]; exact H⟩
 ·obtain rfl : i = s.length := by omega
  obtain ⟨f, rfl⟩ := live4 f1 f5 f6 f7
  clear f1 f5 f6 f7
  rw [List.take_length] at hout
  rw [← hout]
  refine k_seq ?_
  refine k_sg ?_
  refine s_run rfl rfl (rmi rfl) ?_
  refine s_run rfl rfl (rms rfl) ?_
  refine s_run rfl rfl (r_len rfl Try.underlying25) ?_
  refine s_run rfl rfl (r_lssF rfl rfl (by omega)) ?_
  refine k_nc ?_
  refine k_f rfl ?_
  refine k_exit ?_
  refine c_exit ?_
  refine c_exit ?_
  refine b_hit ?_
  refine c_norm ?_
  refine k_sg ?_
  refine s_run rfl rfl (rms rfl) ?_
  refine s_run rfl rfl (ras rfl) ?_
  refine k_nc ?_
  refine k_ret ?_
  refine fin1r (v := .slice _ _ _) rfl rfl ?_
  exact ⟨OA, oc, rfl, HB.more H⟩
theorem Cn.without_len (l l2 : List Int) : (Cn.without l l2).length ≤ l.length := Nat.le_trans (List.length_filter_le _ _) (Cn.sorted_len l)
theorem Cn.lived_short : ∀ {cs : List (List Int)}, cs.length ≤ 1 → Cn.lived cs = []
 | [], _ => rfl
 | [_], _ => rfl
 | _ :: _ :: _, h => by simp at h
theorem dLived (A : Option Addr) (n c : Nat) (rs : List CRow) (w : World) (hS : CsOk w A rs) (hl : rs.length = n) (hnc : n ≤ c) :
  Calls Try.prog 40 [.slice A n c].toArray w fun e w' => ∃ A' c', e = .returned (.slice A' (Cn.lived (csOf rs)).length c') ∧ (Cn.lived (csOf rs)).length ≤ 1800 ∧ Heap w [] [ownN 1 (.slice A' (Cn.lived (csOf rs)).length c') (Cn.lived (csOf rs)).length ((Cn.lived (csOf rs)).map (Value.int .i64)) 3] w' := by
 have hfew := hS.few
 have H := Heap.nil w
 refine k_in (N := 41) Try.func40 rfl rfl rfl ?_
 refine k_sg ?_
 refine s_run rfl rfl (ras rfl) ?_
 refine k_nc ?_
 refine k_sg ?_
 refine s_run rfl rfl (ras rfl) ?_
 refine k_nc ?_
 refine k_seq ?_
 refine k_sg ?_
 refine s_run rfl rfl (rai rfl) ?_
 refine k_nc ?_
 refine k_b ?_
 replace H := H.own_nil 1 3
 refine k_loop (fun z f W => ∃ (j : Nat) (OA : Option Addr) (oc : Nat) (out : List Int), (j = 0 ∨ j + 1 ≤ n) ∧ z = n - j ∧ out = Cn.lived (csOf (rs.take (j + 1))) ∧ out.length ≤ j * 60 ∧ f 0 = .slice A n c ∧ f 3 = .slice OA out.length oc ∧ f 4 = .int .i64 (j + 1 : Nat) ∧ Heap w [] [ownN 1 (.slice OA out.length oc) out.length (out.map (Value.int .i64)) 3] W) n ⟨0, none, 0, [], .inl rfl, rfl, (Cn.lived_short (by unfold csOf; rw [List.length_map, List.length_take]; omega)).symm, by simp, rfl, rfl, rfl, H⟩ ?_
 clear H
 rintro z f W ⟨j, OA, oc, out, hj, rfl, hout, hol, f0, f3, f4, H⟩
 by_cases hil : j + 1 < n
 ·obtain ⟨r, hr⟩ : ∃ r, rs[j]? = some r := ⟨_, List.getElem?_eq_getElem (by omega)⟩
  obtain ⟨q, hq⟩ : ∃ q, rs[j + 1]? = some q := ⟨_, List.getElem?_eq_getElem (by omega)⟩
  have hrm := List.mem_of_getElem? hr
  have hqm := List.mem_of_getElem? hq
  obtain ⟨b, o, rfl, _, hrd⟩ := hS.S.1 (by omega)
  have cr := hrd _ _ hr
  have cq := hrd _ _ hq
  have hrl := hS.len r hrm
  have hql := hS.len q hqm
  have hsq := csOf_snoc hq
  have hsr := csOf_snoc hr
  have hlv : Cn.lived (csOf (rs.take (j + 1 + 1))) = out ++ (Cn.without r.xs q.xs).map fun a => (Cn.age (csOf (rs.take (j + 1))) a : Int) := by
   rw [hsq, hsr, Cn.lived_snoc2, ← hsr, ← hout]
  have hW := fun {W : World} (hO : Only [] w W) => dWithout r.A r.n r.c r.xs q.A q.n q.c q.xs W ((hS.S.2 r hrm).s.later hO (by simp)) (hS.S.2 r hrm).l (by omega) ((hS.S.2 q hqm).s.later hO (by simp)) (hS.S.2 q hqm).l (by omega)
  have hA := fun {W : World} (hO : Only [] w W) (a : Int) => dAge (some ⟨b, o, none⟩) (j + 1) c (rs.take (j + 1)) a W ((hS.take (j + 1)).later hO) (by rw [List.length_take]; omega)
  have hwl := Cn.without_len r.xs q.xs
  rw [(hS.S.2 r hrm).l] at hwl
  have hab := fun a => Cn.age_le (csOf (rs.take (j + 1))) a
  have hal : (csOf (rs.take (j + 1))).length ≤ 30 := by unfold csOf; rw [List.length_map, List.length_take]; omega
  generalize Cn.without r.xs q.xs = s at *
  generalize hg : (fun a => (Cn.age (csOf (rs.take (j + 1))) a : Int)) = g at *
  obtain ⟨f, rfl⟩ := live3 f0 f3 f4
  clear f0 f3 f4
  refine k_seq ?_
  refine k_sg ?_
  refine s_run rfl rfl (rmi rfl) ?_
  refine s_run rfl rfl (rms rfl) ?_
  refine s_run rfl rfl (r_len rfl Try.underlying69) ?_
  refine s_run rfl rfl (r_lssT rfl rfl (by omega)) ?_
  refine k_nc ?_
  refine k_t rfl ?_
  refine k_skip ?_
  refine c_norm ?_
  refine k_seq ?_
  refine k_b ?_
  refine k_seq ?_
  refine k_cut (fun f W => ∃ SA sc, f 0 = .slice (some ⟨b, o, none⟩) n c ∧ f 3 = .slice OA out.length oc ∧ f 4 = .int .i64 (j + 1 : Nat) ∧ f 5 = .slice SA s.length sc ∧ Heap w [] [ownN 1 (.slice SA s.length sc) s.length (s.map (Value.int .i64)) 3, ownN 1 (.slice OA out.length oc) out.length (out.map (Value.int .i64)) 3] W) ?_ ?_
  ·refine k_trF mixed ?_; have H' := H.drew; clear H; have H := H'; clear H'
   refine tqn 0 rfl rfl rfl (fun _ hS => r_mv (v := .slice _ _ _) rfl) trivial ?_
   refine tqn 1 rfl rfl rfl (fun _ hS => r_mv (v := .int _ _) rfl) trivial ?_
   refine tqn 2 rfl rfl rfl (fun _ hS => r_sub rfl rfl (wI (by omega))) trivial ?_
   refine tqn 3 rfl rfl rfl (fun _ hS => r_ix1o (i := j) rfl rfl (by omega) (by omega) Try.underlying69 sz25) trivial ?_
   refine tqn 5 rfl rfl rfl (fun _ hS => r_mv (v := .slice _ _ _) rfl) trivial ?_
   refine tqn 6 rfl rfl rfl (fun _ hS => r_mv (v := .int _ _) rfl) trivial ?_
   refine tqn 7 rfl rfl rfl (fun _ hS => r_ix1o (i := (j + 1)) rfl rfl (by omega) (by omega) Try.underlying69 sz25) trivial ?_
   refine t_up2 4 8 (by kernel_rfl) ?_ ?_
   ·refine up_mk rfl ?_
    refine s_run rfl rfl (r_lr H rfl cr (by simp) ag25) ?_
    refine k_nil ?_
    refine t_on trivial ?_
    refine t_up1 8 (by kernel_rfl) ?_
    refine up_mk rfl ?_
    refine s_run rfl rfl (r_lr H rfl cq (by simp) ag25) ?_
    refine k_nil ?_
    refine t_on trivial ?_
    refine t_up1 9 (by kernel_rfl) ?_
    refine up_mk rfl ?_
    refine s_call rfl (hW H.only) (ca71 rfl) ?_
    rintro e W1 ⟨SA, sc, rfl, H'⟩
    refine ⟨_, rfl, ?_⟩
    have H := H.more H'; clear H'; simp only [List.cons_append, List.nil_append] at H
    refine k_nil ?_
    refine t_on trivial ?_
    refine tqn 10 rfl rfl rfl (fun _ hS => r_as (v := .slice _ _ _) rfl) trivial ?_
    refine t_done (by kernel_rfl) ?_
    refine k_met ?_
    exact ⟨SA, sc, rfl, rfl, rfl, rfl, H⟩
   ·refine up_mk rfl ?_
    refine s_run rfl rfl (r_lr H rfl cq (by simp) ag25) ?_
    refine k_nil ?_
    refine t_on trivial ?_
    refine t_up1 4 (by kernel_rfl) ?_
    refine up_mk rfl ?_
    refine s_run rfl rfl (r_lr H rfl cr (by simp) ag25) ?_
    refine k_nil ?_
    refine t_on trivial ?_
    refine t_up1 9 (by kernel_rfl) ?_
    refine up_mk rfl ?_
    refine s_call rfl (hW H.only) (ca71 rfl) ?_
    rintro e W1 ⟨SA, sc, rfl, H'⟩
    refine ⟨_, rfl, ?_⟩
    have H := H.more H'; clear H'; simp only [List.cons_append, List.nil_append] at H
    refine k_nil ?_
    refine t_on trivial ?_
    refine tqn 10 rfl rfl rfl (fun _ hS => r_as (v := .slice _ _ _) rfl) trivial ?_
    refine t_done (by kernel_rfl) ?_
    refine k_met ?_
    exact ⟨SA, sc, rfl, rfl, rfl, rfl, H⟩
  ·clear H
   rintro f W ⟨SA, sc, f0, f3, f4, f5, H⟩
   obtain ⟨f, rfl⟩ := live4 f0 f3 f4 f5
   clear f0 f3 f4 f5
   refine c_norm ?_
   refine k_sg ?_
   refine s_run rfl rfl (rai rfl) ?_
   refine k_nc ?_
   refine k_b ?_
   refine k_loop (fun z f W => ∃ (k : Nat) (OA : Option Addr) (oc : Nat) (o2 : List Int), k ≤ s.length ∧ z = s.length - k ∧ o2 = out ++ (s.take k).map g ∧ o2.length = out.length + k ∧ f 0 = .slice (some ⟨b, o, none⟩) n c ∧ f 3 = .slice OA o2.length oc ∧ f 4 = .int .i64 (j + 1 : Nat) ∧ f 5 = .slice SA s.length sc ∧ f 6 = .int .i64 k ∧ Heap w [] [ownN 1 (.slice SA s.length sc) s.length (s.map (Value.int .i64)) 3, ownN 1 (.slice OA o2.length oc) o2.length (o2.map (Value.int .i64)) 3] W) s.length ⟨0, OA, oc, out, by omega, rfl, by simp, rfl, rfl, rfl, rfl, rfl, rfl, H⟩ ?_
   clear H
   rintro z f W ⟨k, OA, oc, o2, hk, rfl, ho2, hol2, f0, f3, f4, f5, f6, H⟩
   obtain ⟨f, rfl⟩ := live5 f0 f3 f4 f5 f6
   clear f0 f3 f4 f5 f6
   by_cases hlt : k < s.length
   ·obtain ⟨x, hx⟩ : ∃ x, s[k]? = some x := ⟨_, List.getElem?_eq_getElem hlt⟩
    obtain ⟨p, rfl⟩ := H.own_some 0 rfl (by omega)
    have ho3 : out ++ (s.take (k + 1)).map g = o2 ++ [g x] := by rw [← tk_snoc hx, List.map_append, ho2, List.append_assoc]; rfl
    have hgx : (Cn.age (csOf (rs.take (j + 1))) x : Int) = g x := by rw [← hg]
    have hol3 : (o2 ++ [g x]).length = o2.length + 1 := by simp
    have hA1 := fun {W : World} (hO : Only [] w W) => hA hO x
    rw [hgx] at hA1
    refine k_seq ?_
    refine k_sg ?_
    refine s_run rfl rfl (rmi rfl) ?_
    refine s_run rfl rfl (rms rfl) ?_
    refine s_run rfl rfl (r_len rfl Try.underlying25) ?_
    refine s_run rfl rfl (r_lssT rfl rfl (by omega)) ?_
    refine k_nc ?_
    refine k_t rfl ?_
    refine k_skip ?_
    refine c_norm ?_
    refine k_seq ?_
    refine k_b ?_
    refine k_trF mixed ?_; have H' := H.drew; clear H; have H := H'; clear H'
    refine tqh 0 rfl rfl rfl (fun _ hS => r_mv (v := .slice _ _ _) rfl) trivial ?_
    refine tqh 1 rfl rfl rfl (fun _ hS => r_mv (v := .slice _ _ _) rfl) trivial ?_
    refine tqh 2 rfl rfl rfl (fun _ hS => r_mv (v := .int _ _) rfl) trivial ?_
    refine tqh 3 rfl rfl rfl (fun _ hS => r_shiA (j := j + 1) rfl rfl rfl (by omega) Try.underlying69 sz25) trivial ?_
    refine tqh 4 rfl rfl rfl (fun _ hS => r_mv (v := .slice _ _ _) rfl) trivial ?_
    refine tqh 5 rfl rfl rfl (fun _ hS => r_mv (v := .int _ _) rfl) trivial ?_
    refine tqh 6 rfl rfl rfl (fun _ hS => r_ix1 (i := k) rfl rfl (by omega) (by omega) Try.underlying25 sz3) trivial ?_
    refine t_up1 7 (by kernel_rfl) ?_
    refine up_mk rfl ?_
    refine s_run rfl rfl (r_ow H 0 rfl rfl hx ag3) ?_
    refine k_nil ?_
    refine t_on trivial ?_
    refine t_up1 8 (by kernel_rfl) ?_
    refine up_mk rfl ?_
    refine s_call rfl (hA1 H.only) (ca38 rfl) ?_
    rintro e W1 ⟨rfl, H'⟩
    refine ⟨_, rfl, ?_⟩
    have H := H.same H'; clear H'
    refine k_nil ?_
    refine t_on trivial ?_
    refine t_up1 9 (by kernel_rfl) ?_
    refine up_mk rfl ?_
    refine s_bsO (enc := (Value.int .i64)) (zs := [g x]) H rfl rfl rfl (by omega) (by kernel_rfl) Try.underlying25 inf3 ?_
    intro q9 _ H'; clear H; have H := H'; clear H'
    refine k_nil ?_
    refine t_on trivial ?_
    refine t_up1 10 (by kernel_rfl) ?_
    refine up_mk rfl ?_
    refine s_apB (enc := (Value.int .i64)) (size := 1) H 1 rfl rfl rfl rfl (fun _ => rfl) (by omega) (by omega) Try.underlying25 inf3 rfl ?_
    intro A1 c1 _ H'; simp only [List.set_cons_zero, List.set_cons_succ, List.take_succ_cons, List.take_zero, List.drop_succ_cons, List.drop_zero, List.cons_append, List.nil_append, List.append_nil, List.length_cons, List.length_nil, Nat.reduceAdd] at H'; clear H; have H := H'; clear H'
    refine k_nil ?_
    refine t_on trivial ?_
    refine tqh 11 rfl rfl rfl (fun _ hS => r_as (v := .slice _ _ _) rfl) trivial ?_
    refine t_done (by kernel_rfl) ?_
    refine b_norm ?_
    refine c_norm ?_
    refine k_rg ?_
    refine s_run rfl rfl (rmi rfl) ?_
    refine s_run rfl rfl (r_add rfl rfl (wI (by omega))) ?_
    refine s_run rfl rfl (rai rfl) ?_
    refine k_nil ?_
    refine c_round ?_
    exact ⟨_, _, by omega, rfl, k + 1, A1, c1, o2 ++ [g x], by omega, rfl, ho3.symm, by rw [hol3]; omega, rfl, by rw [hol3]; rfl, rfl, rfl, rfl, by rw [hol3]; exact H⟩
   ·obtain rfl : k = s.length := by omega
    rw [List.take_length, ← hlv] at ho2
    refine k_seq ?_
    refine k_sg ?_
    refine s_run rfl rfl (rmi rfl) ?_
    refine s_run rfl rfl (rms rfl) ?_
    refine s_run rfl rfl (r_len rfl Try.underlying25) ?_
    refine s_run rfl rfl (r_lssF rfl rfl (by omega)) ?_
    refine k_nc ?_
    refine k_f rfl ?_
    refine k_exit ?_
    refine c_exit ?_
    refine c_exit ?_
    refine b_hit ?_
    refine b_norm ?_
    refine c_norm ?_
    refine k_rg ?_
    refine s_run rfl rfl (rmi rfl) ?_
    refine s_run rfl rfl (r_add rfl rfl (wI (by omega))) ?_
    refine s_run rfl rfl (rai rfl) ?_
    refine k_nil ?_
    refine c_round ?_
    exact ⟨_, _, by omega, rfl, j + 1, OA, oc, o2, by omega, rfl, ho2, by omega, rfl, rfl, rfl, H.drop⟩
 ·obtain ⟨f, rfl⟩ := live3 f0 f3 f4
  clear f0 f3 f4
  have he : out = Cn.lived (csOf rs) := by
   rw [hout, List.take_of_length_le (by omega)]
  rw [← he]
  refine k_seq ?_
  refine k_sg ?_
  refine s_run rfl rfl (rmi rfl) ?_
  refine s_run rfl rfl (rms rfl) ?_
  refine s_run rfl rfl (r_len rfl Try.underlying69) ?_
  refine s_run rfl rfl (r_lssF rfl rfl (by omega)) ?_
  refine k_nc ?_
  refine k_f rfl ?_
  refine k_exit ?_
  refine c_exit ?_
  refine c_exit ?_
  refine b_hit ?_
  refine c_norm ?_
  refine k_sg ?_
  refine s_run rfl rfl (rms rfl) ?_
  refine s_run rfl rfl (ras rfl) ?_
  refine k_nc ?_
  refine k_ret ?_
  refine fin1r (v := .slice _ _ _) rfl rfl ?_
  exact ⟨OA, oc, rfl, by omega, H⟩
end Go.Proofs.Ytlakbclnilakbaa
end

section
namespace Go.Proofs.Ytlakbclnilakbaa.Cn
open St (Q)
/-- those that are not gone -/
def left2 : List Q → List Bool → List Q
 | x :: P, g :: G => if g then left2 P G else x :: left2 P G
 | _, _ => []
theorem left2_all : ∀ (P : List Q), left2 P (List.replicate P.length false) = P
 | [] => rfl
 | x :: P => by
  show (if false = true then _ else x :: left2 P (List.replicate P.length false)) = _
  rw [left2_all P]; rfl
theorem left2_mem : ∀ (P : List Q) (G : List Bool) (x : Q), x ∈ left2 P G ↔ ∃ i : Nat, P[i]? = some x ∧ G[i]? = some false
 | [], G, x => by simp [left2]
 | y :: P, [], x => by simp [left2]
 | y :: P, g :: G, x => by
  have ih := left2_mem P G x
  unfold left2
  cases g with
  | true =>
   rw [if_pos rfl, ih]
   constructor
   ·rintro ⟨i, h1, h2⟩; exact ⟨i + 1, h1, h2⟩
   ·rintro ⟨i, h1, h2⟩
    cases i with
    | zero => cases h2
    | succ i => exact ⟨i, h1, h2⟩
  | false =>
   rw [if_neg (by simp), List.mem_cons, ih]
   constructor
   ·rintro (rfl | ⟨i, h1, h2⟩)
    ·exact ⟨0, rfl, rfl⟩
    ·exact ⟨i + 1, h1, h2⟩
   ·rintro ⟨i, h1, h2⟩
    cases i with
    | zero => injection h1 with h1; exact .inl h1.symm
    | succ i => exact .inr ⟨i, h1, h2⟩
theorem left2_set : ∀ (P : List Q) (G : List Bool) (b : Nat) (x : Q), P[b]? = some x → G[b]? = some false → (left2 P G).Perm (x :: left2 P (G.set b true))
 | [], G, b, x, h, _ => by simp at h
 | y :: P, [], b, x, _, h => by simp at h
 | y :: P, g :: G, 0, x, h1, h2 => by
  injection h1 with h1; subst h1
  injection h2 with h2; subst h2
  exact List.Perm.refl _
 | y :: P, g :: G, b + 1, x, h1, h2 => by
  have ih := left2_set P G b x h1 h2
  show (left2 (y :: P) (g :: G)).Perm (x :: left2 (y :: P) (g :: G.set b true))
  unfold left2
  cases g with
  | true => rw [if_pos rfl, if_pos rfl]; exact ih
  | false =>
   rw [if_neg (by simp), if_neg (by simp)]
   exact (List.Perm.cons y ih).trans (List.Perm.swap _ _ _)
/-- the best of those ahead: the first with the greatest age -/
def Best (P : List Q) (G : List Bool) (i : Nat) (b : Int) : Prop :=
 (b = -1 ∧ ∀ j, j < i → G[j]? ≠ some false) ∨ ∃ (k : Nat) (x : Q), b = k ∧ k < i ∧ G[k]? = some false ∧ P[k]? = some x ∧ ∀ (j : Nat) (y : Q), j < i → G[j]? = some false → P[j]? = some y → y.2 < x.2 ∨ y.2 = x.2 ∧ k ≤ j
theorem Best.start (P : List Q) (G : List Bool) : Best P G 0 (-1) := .inl ⟨rfl, fun j h => by omega⟩
theorem Best.gone {P : List Q} {G : List Bool} {i : Nat} {b : Int} (h : Best P G i b) (hg : G[i]? = some true) : Best P G (i + 1) b := by
 have hne : G[i]? ≠ some false := by rw [hg]; simp
 rcases h with ⟨h1, h2⟩ | ⟨k, x, h1, h2, h3, h4, h5⟩
 ·refine .inl ⟨h1, fun j hj => ?_⟩
  by_cases e : j = i
  ·subst e; exact hne
  ·exact h2 j (by omega)
 ·refine .inr ⟨k, x, h1, by omega, h3, h4, fun j y hj h6 h7 => ?_⟩
  by_cases e : j = i
  ·subst e; exact absurd h6 hne
  ·exact h5 j y (by omega) h6 h7
theorem Best.first {P : List Q} {G : List Bool} {i : Nat} {x : Q} (h : Best P G i (-1)) (hg : G[i]? = some false) (hx : P[i]? = some x) : Best P G (i + 1) i := by
 rcases h with ⟨_, h2⟩ | ⟨k, x, h1, _⟩
 ·refine .inr ⟨i, x, rfl, by omega, hg, hx, fun j y hj h6 h7 => ?_⟩
  by_cases e : j = i
  ·subst e; rw [hx] at h7; injection h7 with h7; subst h7; exact .inr ⟨rfl, Nat.le_refl _⟩
  ·exact absurd h6 (h2 j (by omega))
 ·omega
theorem Best.next {P : List Q} {G : List Bool} {i : Nat} {k : Nat} {x z : Q} (h : Best P G i k) (hg : G[i]? = some false) (hx : P[i]? = some x) (hz : P[k]? = some z) : Best P G (i + 1) (if x.2 > z.2 then i else k) := by
 rcases h with ⟨h1, _⟩ | ⟨k2, z2, h1, h2, h3, h4, h5⟩
 ·omega
 obtain rfl : k = k2 := by omega
 rw [hz] at h4; injection h4 with h4; subst h4
 by_cases hc : x.2 > z.2
 ·rw [if_pos hc]
  refine .inr ⟨i, x, rfl, by omega, hg, hx, fun j y hj h6 h7 => ?_⟩
  by_cases e : j = i
  ·subst e; rw [hx] at h7; injection h7 with h7; subst h7; exact .inr ⟨rfl, Nat.le_refl _⟩
  ·have := h5 j y (by omega) h6 h7; exact .inl (by omega)
 ·rw [if_neg hc]
  refine .inr ⟨k, z, rfl, by omega, h3, hz, fun j y hj h6 h7 => ?_⟩
  by_cases e : j = i
  ·subst e; rw [hx] at h7; injection h7 with h7; subst h7
   by_cases e2 : x.2 = z.2
   ·exact .inr ⟨e2, by omega⟩
   ·exact .inl (by omega)
  ·exact h5 j y (by omega) h6 h7
/-- what is chosen is the next of the sorted row -/
theorem Best.take {P l : List Q} {G : List Bool} {b : Int} {n k : Nat} (h : Best P G n b) (hn : P.length = n) (hG : G.length = n) (hr : P.Pairwise fun x y => x.1 < y.1) (hl : l.Pairwise St.le) (hp : (left2 P G).Perm (l.drop k)) (hk : k < l.length) :
  ∃ (m : Nat) (x : Q), b = m ∧ m < n ∧ P[m]? = some x ∧ G[m]? = some false ∧ l[k]? = some x ∧ (left2 P (G.set m true)).Perm (l.drop (k + 1)) := by
 have hd : l.drop k = l[k] :: l.drop (k + 1) := List.drop_eq_getElem_cons hk
 have hx0 : l[k] ∈ left2 P G := hp.mem_iff.2 (by rw [hd]; exact List.mem_cons_self)
 obtain ⟨i, hi1, hi2⟩ := (left2_mem _ _ _).1 hx0
 have hin : i < n := by have := (List.getElem?_eq_some_iff.1 hi1).1; omega
 rcases h with ⟨_, h2⟩ | ⟨m, x, h1, h2, h3, h4, h5⟩
 ·exact absurd hi2 (h2 i hin)
 ·have hxm : x ∈ left2 P G := (left2_mem _ _ _).2 ⟨m, h4, h3⟩
  have hxd : x ∈ l.drop k := hp.mem_iff.1 hxm
  have hle1 : St.le l[k] x := by
   rw [hd] at hxd
   have hs : (l.drop k).Pairwise St.le := List.Pairwise.sublist (List.drop_sublist _ _) hl
   rw [hd] at hs
   rcases List.mem_cons.1 hxd with e | h6
   ·rw [e]; unfold St.le; omega
   ·exact (List.pairwise_cons.1 hs).1 x h6
  have hle2 : St.le x l[k] := by
   rcases h5 i _ hin hi2 hi1 with h6 | ⟨h6, h7⟩
   ·exact .inl h6
   ·refine .inr ⟨h6.symm, ?_⟩
    by_cases e : m = i
    ·subst e; rw [h4] at hi1; injection hi1 with hi1; rw [hi1]; omega
    ·obtain ⟨a1, a2⟩ := List.getElem?_eq_some_iff.1 h4
     obtain ⟨b1, b2⟩ := List.getElem?_eq_some_iff.1 hi1
     have := List.pairwise_iff_getElem.1 hr m i a1 b1 (by omega)
     rw [a2, b2] at this
     omega
  have e : l[k] = x := St.le_anti hle1 hle2
  refine ⟨m, x, h1, h2, h4, h3, by rw [List.getElem?_eq_getElem hk, e], ?_⟩
  have h8 := left2_set P G m x h4 h3
  have h9 := h8.symm.trans hp
  rw [hd, e] at h9
  exact h9.cons_inv
/-! behind each count -/
theorem ageR_mem : ∀ (r : List (List Int)) (a : Int), ageR a r ≤ r.length := fun r a => by
 have := age_le r.reverse a
 unfold age at this
 rwa [List.reverse_reverse, List.length_reverse] at this
theorem livedR_bd : ∀ (r : List (List Int)), ∀ x ∈ livedR r, 0 ≤ x ∧ x ≤ r.length
 | [], x, h => by simp [livedR] at h
 | [_], x, h => by simp [livedR] at h
 | l :: k :: r, x, h => by
  unfold livedR at h
  rcases List.mem_append.1 h with h | h
  ·have := livedR_bd (k :: r) x h
   simp only [List.length_cons] at *; omega
  ·obtain ⟨a, _, rfl⟩ := List.mem_map.1 h
   have := ageR_mem (k :: r) a
   simp only [List.length_cons] at *; omega
theorem lived_bd (cs : List (List Int)) : ∀ x ∈ lived cs, 0 ≤ x ∧ x ≤ cs.length := fun x h => by
 have := livedR_bd cs.reverse x h
 rwa [List.length_reverse] at this
theorem livedR_len : ∀ (r : List (List Int)), (∀ l ∈ r, l.length ≤ 60) → (livedR r).length ≤ r.length * 60
 | [], _ => by simp [livedR]
 | [_], _ => by simp [livedR]
 | l :: k :: r, h => by
  have h1 := livedR_len (k :: r) fun x hx => h x (by simp [hx])
  have h2 : (without k l).length ≤ k.length := without_len k l
  have h3 := h k (by simp)
  unfold livedR
  rw [List.length_append, List.length_map]
  simp only [List.length_cons] at *; omega
theorem lived_len (cs : List (List Int)) (h : ∀ l ∈ cs, l.length ≤ 60) : (lived cs).length ≤ cs.length * 60 := by
 have := livedR_len cs.reverse fun l hl => h l (List.mem_reverse.1 hl)
 rwa [List.length_reverse] at this
structure At (cs : List (List Int)) (M : List (Int × Int)) (D : List Int) : Prop where
 I : Inv M (age cs)
 D : D.Perm (lived cs)
theorem At.start : At [] [] [] := ⟨Inv.nil fun a => rfl, List.Perm.refl _⟩
theorem At.all {cs : List (List Int)} {l : List Int} {M : List (Int × Int)} {D : List Int} (h : At (cs ++ [l]) M D) : M.Perm ((sorted l).map fun a => (a, (age (cs ++ [l]) a : Int))) :=
 h.I.perm (sorted_nodup l) fun a => by
  rw [sorted_mem, age_snoc]
  by_cases ha : a ∈ l
  ·simp [ha]
  ·simp [ha]
theorem At.none {M : List (Int × Int)} {D : List Int} (h : At [] M D) : M = [] := by
 cases M with
 | nil => rfl
 | cons p M =>
  have := (h.I.mem p).1 (by simp)
  exact absurd rfl this.1
theorem At.bd {cs : List (List Int)} {M : List (Int × Int)} {D : List Int} (h : At cs M D) (hc : cs.length ≤ 30) (hl : ∀ l ∈ cs, l.length ≤ 60) (hb : ∀ l ∈ cs, ∀ x ∈ l, 0 ≤ x ∧ x ≤ 1099511627776) :
  M.length ≤ 60 ∧ (∀ p ∈ M, 0 ≤ p.1 ∧ p.1 ≤ 1099511627776 ∧ 1 ≤ p.2 ∧ p.2 ≤ 30) ∧ (∀ x ∈ D, 0 ≤ x ∧ x ≤ 30) ∧ D.length ≤ 1800 := by
 have hD : (∀ x ∈ D, 0 ≤ x ∧ x ≤ 30) ∧ D.length ≤ 1800 := by
  refine ⟨fun x hx => ?_, ?_⟩
  ·have := lived_bd cs x (h.D.mem_iff.1 hx); omega
  ·have := lived_len cs hl; rw [h.D.length_eq]; omega
 rcases List.eq_nil_or_concat cs with rfl | ⟨cs, l, rfl⟩
 ·obtain rfl := h.none
  exact ⟨by simp, by simp, hD⟩
 ·rw [List.concat_eq_append] at *
  have hp := h.all
  refine ⟨?_, fun p hp2 => ?_, hD⟩
  ·rw [hp.length_eq, List.length_map]
   have := hl l (by simp)
   have := sorted_len l
   omega
  ·obtain ⟨a, ha, rfl⟩ := List.mem_map.1 (hp.mem_iff.1 hp2)
   have h1 := (sorted_mem _ _).1 ha
   have h2 := hb l (by simp) a h1
   have h3 := age_le (cs ++ [l]) a
   have h4 : age (cs ++ [l]) a ≠ 0 := by rw [age_snoc, if_pos h1]; omega
   show 0 ≤ a ∧ a ≤ 1099511627776 ∧ 1 ≤ ((age (cs ++ [l]) a : Nat) : Int) ∧ ((age (cs ++ [l]) a : Nat) : Int) ≤ 30
   omega
theorem At.step {cs : List (List Int)} {M : List (Int × Int)} {D : List Int} (h : At cs M D) (l : List Int) {dk : List (Int × Int)} (hk : dk.Perm (gone (now M l) M)) : At (cs ++ [l]) (now M l) (D ++ dk.map Prod.snd) := by
 have hI := now_get h.I l
 refine ⟨hI.congr fun a => (age_snoc cs l a).symm, ?_⟩
 rcases List.eq_nil_or_concat cs with rfl | ⟨cs, k, rfl⟩
 ·obtain rfl := h.none
  obtain rfl : dk = [] := List.perm_nil.1 hk
  have h1 := h.D
  rw [List.map_nil, List.append_nil]
  exact h1
 ·rw [List.concat_eq_append] at *
  rw [lived_snoc2]
  refine h.D.append ?_
  have h1 := (hk.trans (gone_perm hI h.all)).map Prod.snd
  rw [List.map_map] at h1
  exact h1
end Go.Proofs.Ytlakbclnilakbaa.Cn
end

section
namespace Go.Proofs.Ytlakbclnilakbaa
open Go.RowKit
set_option maxRecDepth 100000
set_option maxHeartbeats 4000000
/-- of a hundred that came to an age, how many became older -/
def Cn.left (age : Int) (t : List Int) : Int := if ws (fun i => decide (age ≤ (i : Int))) 0 t = 0 then 0 else 100 * ws (fun i => decide (age < (i : Int))) 0 t / ws (fun i => decide (age ≤ (i : Int))) 0 t
theorem Cn.ws_le {p q : Nat → Bool} (h : ∀ i, p i = true → q i = true) : ∀ (t : List Int) (k : Nat), (∀ x ∈ t, 0 ≤ x) → ws p k t ≤ ws q k t
 | [], _, _ => Int.le_refl _
 | x :: t, k, h0 => by
  have := ws_le h t (k + 1) fun y hy => h0 y (by simp [hy])
  have := h0 x (by simp)
  show (if p k then x else 0) + ws p (k + 1) t ≤ (if q k then x else 0) + ws q (k + 1) t
  have h1 := h k
  cases hp : p k <;> cases hq : q k <;> simp_all <;> omega
section
variable {p b c : Nat} {A : Option Addr} {nc nb nd : Int} {dead : List Int} {ages : List (Int × Int)} {w : World}
theorem cLeft (hE : Ents (cnE p b A c nc nb nd ages dead) w) (hl : dead.length ≤ 100000) (hd : ∀ x ∈ dead, x ≤ ((1000 : Nat) : Int)) (age : Int) :
  Calls Try.prog 45 [ptrC p, .int .i64 age].toArray w fun e w' => e = .returned (.int .i64 (Cn.left age (Cn.tbl dead))) ∧ Only [] w w' := by
 have HR := Heap.ungrp (Heap.start hE)
 have H := Heap.nil w
 have htl := Cn.tbl_len 1000 dead hd
 have hbd := fun x => Cn.tbl_bd (l := dead) (x := x)
 have hS : Sees (Value.int .i64) w [] A (Cn.tbl dead) := by unfold lvE at HR; exact HR.own_sees 1 rfl
 have hw1 := fun i => Cn.ws_tbl_le (fun i => decide (age ≤ (i : Int))) dead i
 have hw2 := fun i => Cn.ws_tbl_le (fun i => decide (age < (i : Int))) dead i
 unfold Cn.left
 unfold lvE at HR
 generalize Cn.tbl dead = t at *
 generalize ids _ = I at *
 refine k_in (N := 38) Try.func45 rfl rfl rfl ?_
 refine k_sg ?_
 refine s_run rfl rfl (rai rfl) ?_
 refine k_nc ?_
 refine k_sg ?_
 refine s_run rfl rfl (rai rfl) ?_
 refine s_run rfl rfl (rai rfl) ?_
 refine k_nc ?_
 refine k_seq ?_
 refine k_sg ?_
 refine s_run rfl rfl (rmp rfl) ?_
 refine s_run rfl rfl (r_nc rfl) ?_
 refine s_run rfl rfl (r_fa0 rfl fo125_4) ?_
 refine s_run rfl rfl (r_lo (HR.same H.only) 0 rfl rfl rfl ag25) ?_
 refine s_run rfl rfl (r_len rfl Try.underlying25) ?_
 refine s_run rfl rfl (rmi rfl) ?_
 refine k_nc ?_
 refine k_b ?_
 refine k_loop (fun z f W => ∃ i : Nat, i ≤ t.length ∧ z = t.length - i ∧ f 1 = .int .i64 age ∧ f 5 = .int .i64 (Cn.ws (fun i => decide (age ≤ (i : Int))) 0 (t.take i)) ∧ f 6 = .int .i64 (Cn.ws (fun i => decide (age < (i : Int))) 0 (t.take i)) ∧ f 12 = .slice A t.length c ∧ f 13 = .int .i64 t.length ∧ f 14 = .int .i64 i ∧ Heap w [] [] W) t.length ⟨0, by omega, rfl, rfl, rfl, rfl, rfl, rfl, rfl, H⟩ ?_
 clear H
 rintro z f W ⟨i, hi, rfl, f1, f5, f6, f12, f13, f14, H⟩
 obtain ⟨f, rfl⟩ := live6 f1 f5 f6 f12 f13 f14
 clear f1 f5 f6 f12 f13 f14
 have hi1 := hw1 i
 have hi2 := hw2 i
 by_cases hlt : i < t.length
 ·obtain ⟨x, hx⟩ : ∃ x, t[i]? = some x := ⟨_, List.getElem?_eq_getElem (by omega)⟩
  have hxb := hbd x (List.mem_of_getElem? hx)
  obtain ⟨q, o, rfl, _, hrd⟩ := hS (by omega)
  have hc := hrd i _ hx
  have s1 := Cn.ws_snoc (fun i => decide (age ≤ (i : Int))) hx
  have s2 := Cn.ws_snoc (fun i => decide (age < (i : Int))) hx
  by_cases h1 : age ≤ (i : Int)
  ·rw [decide_eq_true h1, if_pos rfl] at s1
   by_cases h2 : age < (i : Int)
   ·rw [decide_eq_true h2, if_pos rfl] at s2
    generalize Cn.ws (fun i => decide (age ≤ (i : Int))) 0 (t.take i) = c1 at *
    generalize Cn.ws (fun i => decide (age < (i : Int))) 0 (t.take i) = c2 at *
    refine k_sg ?_
    refine s_run rfl rfl (r_lssT rfl rfl (by omega)) ?_
    refine k_nc ?_
    refine k_seq ?_
    refine k_t rfl ?_
    refine k_skip ?_
    refine c_norm ?_
    refine k_seq ?_
    refine k_b ?_
    refine k_sg ?_
    refine s_run rfl rfl (rmi rfl) ?_
    refine s_run rfl rfl (r_ix1o (i := i) rfl rfl (by omega) (by omega) Try.underlying25 sz3) ?_
    refine s_run rfl rfl (r_lr H rfl hc (by simp) ag3) ?_
    refine s_run rfl rfl (rai rfl) ?_
    refine s_run rfl rfl (rai rfl) ?_
    refine k_nc ?_
    refine k_seq ?_
    refine k_sg ?_
    refine s_run rfl rfl (rmi rfl) ?_
    refine s_run rfl rfl (rmi rfl) ?_
    refine s_run rfl rfl (r_geqT rfl rfl (by omega)) ?_
    refine k_nc ?_
    refine k_t rfl ?_
    refine k_rg ?_
    refine s_run rfl rfl (rmi rfl) ?_
    refine s_run rfl rfl (rmi rfl) ?_
    refine s_run rfl rfl (r_add rfl rfl (wI (by omega))) ?_
    refine s_run rfl rfl (rai rfl) ?_
    refine k_nc ?_
    refine k_sg ?_
    refine s_run rfl rfl (rmi rfl) ?_
    refine s_run rfl rfl (rmi rfl) ?_
    refine s_run rfl rfl (r_gtrT rfl rfl (by omega)) ?_
    refine k_nc ?_
    refine k_t rfl ?_
    refine k_rg ?_
    refine s_run rfl rfl (rmi rfl) ?_
    refine s_run rfl rfl (rmi rfl) ?_
    refine s_run rfl rfl (r_add rfl rfl (wI (by omega))) ?_
    refine s_run rfl rfl (rai rfl) ?_
    refine k_nil ?_
    refine b_norm ?_
    refine c_norm ?_
    refine k_rg ?_
    refine s_run rfl rfl (r_add rfl rfl (wI (by omega))) ?_
    refine s_run rfl rfl (rmi rfl) ?_
    refine k_nil ?_
    refine c_round ?_
    exact ⟨_, _, by omega, rfl, i + 1, by omega, rfl, rfl, by rw [s1]; rfl, by rw [s2]; rfl, rfl, rfl, rfl, H⟩
   ·rw [decide_eq_false h2] at s2
    generalize Cn.ws (fun i => decide (age ≤ (i : Int))) 0 (t.take i) = c1 at *
    generalize Cn.ws (fun i => decide (age < (i : Int))) 0 (t.take i) = c2 at *
    refine k_sg ?_
    refine s_run rfl rfl (r_lssT rfl rfl (by omega)) ?_
    refine k_nc ?_
    refine k_seq ?_
    refine k_t rfl ?_
    refine k_skip ?_
    refine c_norm ?_
    refine k_seq ?_
    refine k_b ?_
    refine k_sg ?_
    refine s_run rfl rfl (rmi rfl) ?_
    refine s_run rfl rfl (r_ix1o (i := i) rfl rfl (by omega) (by omega) Try.underlying25 sz3) ?_
    refine s_run rfl rfl (r_lr H rfl hc (by simp) ag3) ?_
    refine s_run rfl rfl (rai rfl) ?_
    refine s_run rfl rfl (rai rfl) ?_
    refine k_nc ?_
    refine k_seq ?_
    refine k_sg ?_
    refine s_run rfl rfl (rmi rfl) ?_
    refine s_run rfl rfl (rmi rfl) ?_
    refine s_run rfl rfl (r_geqT rfl rfl (by omega)) ?_
    refine k_nc ?_
    refine k_t rfl ?_
    refine k_rg ?_
    refine s_run rfl rfl (rmi rfl) ?_
    refine s_run rfl rfl (rmi rfl) ?_
    refine s_run rfl rfl (r_add rfl rfl (wI (by omega))) ?_
    refine s_run rfl rfl (rai rfl) ?_
    refine k_nc ?_
    refine k_sg ?_
    refine s_run rfl rfl (rmi rfl) ?_
    refine s_run rfl rfl (rmi rfl) ?_
    refine s_run rfl rfl (r_gtrF rfl rfl (by omega)) ?_
    refine k_nc ?_
    refine k_f rfl ?_
    refine k_skip ?_
    refine b_norm ?_
    refine c_norm ?_
    refine k_rg ?_
    refine s_run rfl rfl (r_add rfl rfl (wI (by omega))) ?_
    refine s_run rfl rfl (rmi rfl) ?_
    refine k_nil ?_
    refine c_round ?_
    exact ⟨_, _, by omega, rfl, i + 1, by omega, rfl, rfl, by rw [s1]; rfl, by rw [s2, if_neg (by simp), Int.add_zero]; rfl, rfl, rfl, rfl, H⟩
  ·have h2 : ¬ age < (i : Int) := by omega
   rw [decide_eq_false h1] at s1
   rw [decide_eq_false h2] at s2
   generalize Cn.ws (fun i => decide (age ≤ (i : Int))) 0 (t.take i) = c1 at *
   generalize Cn.ws (fun i => decide (age < (i : Int))) 0 (t.take i) = c2 at *
   refine k_sg ?_
   refine s_run rfl rfl (r_lssT rfl rfl (by omega)) ?_
   refine k_nc ?_
   refine k_seq ?_
   refine k_t rfl ?_
   refine k_skip ?_
   refine c_norm ?_
   refine k_seq ?_
   refine k_b ?_
   refine k_sg ?_
   refine s_run rfl rfl (rmi rfl) ?_
   refine s_run rfl rfl (r_ix1o (i := i) rfl rfl (by omega) (by omega) Try.underlying25 sz3) ?_
   refine s_run rfl rfl (r_lr H rfl hc (by simp) ag3) ?_
   refine s_run rfl rfl (rai rfl) ?_
   refine s_run rfl rfl (rai rfl) ?_
   refine k_nc ?_
   refine k_seq ?_
   refine k_sg ?_
   refine s_run rfl rfl (rmi rfl) ?_
   refine s_run rfl rfl (rmi rfl) ?_
   refine s_run rfl rfl (r_geqF rfl rfl (by omega)) ?_
   refine k_nc ?_
   refine k_f rfl ?_
   refine k_skip ?_
   refine c_norm ?_
   refine k_sg ?_
   refine s_run rfl rfl (rmi rfl) ?_
   refine s_run rfl rfl (rmi rfl) ?_
   refine s_run rfl rfl (r_gtrF rfl rfl (by omega)) ?_
   refine k_nc ?_
   refine k_f rfl ?_
   refine k_skip ?_
   refine b_norm ?_
   refine c_norm ?_
   refine k_rg ?_
   refine s_run rfl rfl (r_add rfl rfl (wI (by omega))) ?_
   refine s_run rfl rfl (rmi rfl) ?_
   refine k_nil ?_
   refine c_round ?_
   exact ⟨_, _, by omega, rfl, i + 1, by omega, rfl, rfl, by rw [s1, if_neg (by simp), Int.add_zero]; rfl, by rw [s2, if_neg (by simp), Int.add_zero]; rfl, rfl, rfl, rfl, H⟩
 ·obtain rfl : i = t.length := by omega
  rw [List.take_length] at hi1 hi2 ⊢
  have hle := Cn.ws_le (p := fun i => decide (age < (i : Int))) (q := fun i => decide (age ≤ (i : Int))) (fun i h => by simp at *; omega) t 0 fun x hx => (hbd x hx).1
  generalize Cn.ws (fun i => decide (age ≤ (i : Int))) 0 t = c1 at *
  generalize Cn.ws (fun i => decide (age < (i : Int))) 0 t = c2 at *
  by_cases h0 : c1 = 0
  ·rw [if_pos h0]
   refine k_sg ?_
   refine s_run rfl rfl (r_lssF rfl rfl (by omega)) ?_
   refine k_nc ?_
   refine k_seq ?_
   refine k_f rfl ?_
   refine k_exit ?_
   refine c_exit ?_
   refine c_exit ?_
   refine b_hit ?_
   refine c_norm ?_
   refine k_seq ?_
   refine k_sg ?_
   refine s_run rfl rfl (rmi rfl) ?_
   refine s_run rfl rfl (r_eqlT rfl rfl (by omega)) ?_
   refine k_nc ?_
   refine k_t rfl ?_
   refine k_sg ?_
   refine s_run rfl rfl (rai rfl) ?_
   refine k_nc ?_
   refine k_ret ?_
   refine c_ret ?_
   refine fin1r (v := .int _ _) rfl rfl ?_
   exact ⟨rfl, H.only⟩
  ·rw [if_neg h0]
   have hd1 : 0 ≤ 100 * c2 / c1 := Int.ediv_nonneg (by omega) (by omega)
   have hd2 : 100 * c2 / c1 ≤ 100 * c2 := Int.ediv_le_self _ (by omega)
   refine k_sg ?_
   refine s_run rfl rfl (r_lssF rfl rfl (by omega)) ?_
   refine k_nc ?_
   refine k_seq ?_
   refine k_f rfl ?_
   refine k_exit ?_
   refine c_exit ?_
   refine c_exit ?_
   refine b_hit ?_
   refine c_norm ?_
   refine k_seq ?_
   refine k_sg ?_
   refine s_run rfl rfl (rmi rfl) ?_
   refine s_run rfl rfl (r_eqlF rfl rfl (by omega)) ?_
   refine k_nc ?_
   refine k_f rfl ?_
   refine k_skip ?_
   refine c_norm ?_
   refine k_sg ?_
   refine s_run rfl rfl (rmi rfl) ?_
   refine s_run rfl rfl (r_mul rfl rfl (wI (by omega))) ?_
   refine s_run rfl rfl (rmi rfl) ?_
   refine s_run rfl rfl (r_quo rfl rfl (by omega) (wI (by omega))) ?_
   refine s_run rfl rfl (rai rfl) ?_
   refine k_nc ?_
   refine k_ret ?_
   refine fin1r (v := .int _ _) rfl rfl ?_
   exact ⟨rfl, H.only⟩
theorem cLived (hE : Ents (cnE p b A c nc nb nd ages dead) w) (hd : ∀ x ∈ dead, x ≤ ((1000 : Nat) : Int)) :
  Calls Try.prog 44 [ptrC p].toArray w fun e w' => ∃ A' c', e = .returned (.slice A' (Cn.tbl dead).length c') ∧ Heap w [] [ownN 1 (.slice A' (Cn.tbl dead).length c') (Cn.tbl dead).length ((Cn.tbl dead).map (Value.int .i64)) 3] w' := by
 have HR := Heap.ungrp (Heap.start hE)
 have H := Heap.nil w
 have htl := Cn.tbl_len 1000 dead hd
 have hS : Sees (Value.int .i64) w [] A (Cn.tbl dead) := by unfold lvE at HR; exact HR.own_sees 1 rfl
 unfold lvE at HR
 generalize Cn.tbl dead = t at *
 generalize ids _ = I at *
 refine k_in (N := 8) Try.func44 rfl rfl rfl ?_
 refine k_sg ?_
 refine s_run rfl rfl (ras rfl) ?_
 refine k_nc ?_
 refine k_sg ?_
 refine s_run rfl rfl (rmp rfl) ?_
 refine s_run rfl rfl (r_nc rfl) ?_
 refine s_run rfl rfl (r_fa0 rfl fo125_4) ?_
 refine s_run rfl rfl (r_lo (HR.same H.only) 0 rfl rfl rfl ag25) ?_
 refine s_call rfl (sClone _ _ _ t _ (hS.later H.only (fun _ h => h)) rfl (by omega)) (ca54 rfl) ?_
 rintro e W1 ⟨A1, c1, rfl, H'⟩
 refine ⟨_, rfl, ?_⟩
 have H := H.more H'; clear H'; simp only [List.cons_append, List.nil_append] at H
 refine s_run rfl rfl (ras rfl) ?_
 refine k_nc ?_
 refine k_ret ?_
 refine fin1r (v := .slice _ _ _) rfl rfl ?_
 exact ⟨A1, c1, rfl, H⟩
theorem cAge (hE : Ents (cnE p b A c nc nb nd ages dead) w) (a : Int) (ha : -9223372036854775808 ≤ a ∧ a ≤ 9223372036854775807) :
  Calls Try.prog 67 [ptrC p, .int .i64 a].toArray w fun e w' => e = .returned (.int .i64 ((mget ages a).getD 0)) ∧ Only [] w w' := by
 have HR := Heap.ungrp (Heap.start hE)
 have H := Heap.nil w
 unfold lvE at HR
 generalize ids _ = I at *
 have gda : kC.Gd a := ha
 cases hg : mget ages a with
 | none =>
  refine k_in (N := 11) Try.func67 rfl rfl rfl ?_
  refine k_sg ?_
  refine s_run rfl rfl (rai rfl) ?_
  refine k_nc ?_
  refine k_sg ?_
  refine s_run rfl rfl (rmp rfl) ?_
  refine s_run rfl rfl (r_nc rfl) ?_
  refine s_run rfl rfl (r_fa0 rfl fo125_0) ?_
  refine s_run rfl rfl (r_lo (HR.same H.only) 0 rfl rfl rfl ag123) ?_
  refine s_run rfl rfl (rmi rfl) ?_
  refine s_run rfl rfl (r_lkN (HR.same H.only) 2 rfl rfl rfl (gda) (hg) Try.underlying123 (zv_of inf3)) ?_
  refine s_run rfl rfl (rai rfl) ?_
  refine k_nc ?_
  refine k_ret ?_
  refine fin1r (v := .int _ _) rfl rfl ?_
  exact ⟨rfl, H.only⟩
 | some v =>
  refine k_in (N := 11) Try.func67 rfl rfl rfl ?_
  refine k_sg ?_
  refine s_run rfl rfl (rai rfl) ?_
  refine k_nc ?_
  refine k_sg ?_
  refine s_run rfl rfl (rmp rfl) ?_
  refine s_run rfl rfl (r_nc rfl) ?_
  refine s_run rfl rfl (r_fa0 rfl fo125_0) ?_
  refine s_run rfl rfl (r_lo (HR.same H.only) 0 rfl rfl rfl ag123) ?_
  refine s_run rfl rfl (rmi rfl) ?_
  refine s_run rfl rfl (r_lkS (HR.same H.only) 2 rfl rfl rfl (gda) (hg) Try.underlying123 (zv_of inf3) rfl) ?_
  refine s_run rfl rfl (rai rfl) ?_
  refine k_nc ?_
  refine k_ret ?_
  refine fin1r (v := .int _ _) rfl rfl ?_
  exact ⟨rfl, H.only⟩
end
end Go.Proofs.Ytlakbclnilakbaa
end

section
namespace Go.Proofs.Ytlakbclnilakbaa
open Go.RowKit
set_option maxRecDepth 100000
set_option maxHeartbeats 4000000
theorem Heap.wide {w0 W : World} {F G : List Nat} {L : List Ent} (H : Heap w0 F L W) (h : ∀ i ∈ F, i ∈ G) : Heap w0 G L W :=
 ⟨H.ok, H.nd, fun i hi => (H.own i hi).imp (h i) id, ⟨H.only.os, H.only.tape, H.only.output, H.only.size, fun k hk hf => H.only.block k hk fun hm => hf (h k hm)⟩⟩
theorem lv_cn {p b c : Nat} {A : Option Addr} {nc nb nd : Int} {dead : List Int} {ages : List (Int × Int)} : ∀ i ∈ ids (lvE p b A c nc nb nd dead), i ∈ ids (cnE p b A c nc nb nd ages dead) := fun i hi => by
 unfold cnE
 rw [ids_cons]
 exact List.mem_append_left _ hi
theorem awake48 (w : World) : Calls Try.prog 33 [].toArray w fun e w' => e = .returned (.bool true) ∧ Only [] w w' := by
 have H := Heap.nil w
 have e1 : Cn.now [] [600, 700] = [(600, 1), (700, 1)] := by kernel_rfl
 have e2 : Cn.now [(600, 1), (700, 1)] [700] = [(700, 2)] := by kernel_rfl
 have e3 : Cn.gone [(700, 2)] [(600, 1), (700, 1)] = [(600, 1)] := by kernel_rfl
 refine k_in (N := 28) Try.func33 rfl rfl rfl ?_
 refine k_sg ?_
 refine s_run rfl rfl (rab rfl) ?_
 refine k_nc ?_
 refine k_sg ?_
 refine s_call rfl (cNew _) (ca35 rfl) ?_
 rintro e W1 ⟨p, b, rfl, H'⟩
 refine ⟨_, rfl, ?_⟩
 have H := H.more (A := [grp _]) (grp_heap H'); clear H'; simp only [List.cons_append, List.nil_append] at H
 refine s_run rfl rfl (rap rfl) ?_
 refine k_nc ?_
 refine k_seq ?_
 refine k_sg ?_
 refine s_run rfl rfl (rmp rfl) ?_
 refine s_run rfl rfl (r_ptnilF rfl rfl Try.underlying71) ?_
 refine k_nc ?_
 refine k_f rfl ?_
 refine k_skip ?_
 refine c_norm ?_
 refine k_sg ?_
 refine s_run rfl rfl (rmp rfl) ?_
 refine s_bsO (enc := (Value.int .i64)) (zs := [600, 700]) H rfl rfl rfl (by omega) (by kernel_rfl) Try.underlying25 inf3 ?_
 intro q7 _ H'; clear H; have H := H'; clear H'
 refine s_call rfl (cCount (H.grp_ents 1 rfl) (by simp) (by simp) (by simp) (by simp) (by simp) ⟨by omega, by omega, by omega, by omega, by omega, by omega⟩ _ _ _ [600, 700] (H.own_sees 0 rfl) rfl (by simp) (by simp)) (ca36 rfl) ?_
 rintro e W1 ⟨b1, A1, c1, nb1, nd1, DA1, dc1, BA1, bn1, bc1, dk1, rfl, hp1, hx1, hx2, hx3, hx4, H'⟩
 refine ⟨_, rfl, ?_⟩
 have H := Heap.grp_new H 1 rfl (B := [_]) (A' := cnE _ _ _ _ _ _ _ _ _) (H'.wide lv_cn); clear H'; simp only [List.cons_append, List.nil_append, List.set_cons_zero, List.set_cons_succ] at H
 refine k_nc ?_
 refine k_seq ?_
 obtain rfl : dk1 = [] := List.perm_nil.1 hp1
 rw [e1] at H
 replace H : Heap w [] [_] _ := Heap.subl H [2] rfl rfl
 refine k_rg ?_
 refine s_run rfl rfl (rmp rfl) ?_
 refine s_bsO (enc := (Value.int .i64)) (zs := [700]) H rfl rfl rfl (by omega) (by kernel_rfl) Try.underlying25 inf3 ?_
 intro q10 _ H'; clear H; have H := H'; clear H'
 refine s_call rfl (cCount (H.grp_ents 1 rfl) (by simp) (by simp) (by simp) (by simp) (by simp) ⟨by omega, by omega, hx3, by omega, hx4, by omega⟩ _ _ _ [700] (H.own_sees 0 rfl) rfl (by simp) (by simp)) (ca36 rfl) ?_
 rintro e W1 ⟨b2, A2, c2, nb2, nd2, DA2, dc2, BA2, bn2, bc2, dk2, rfl, hp2, hy1, hy2, hy3, hy4, H'⟩
 refine ⟨_, rfl, ?_⟩
 have H := Heap.grp_new H 1 rfl (B := [_]) (A' := cnE _ _ _ _ _ _ _ _ _) (H'.wide lv_cn); clear H'; simp only [List.cons_append, List.nil_append, List.set_cons_zero, List.set_cons_succ] at H
 refine s_al H rfl inf74 ?_
 intro p2 _ H'; clear H; have H := H'; clear H'
 refine s_sw H 0 rfl rfl rfl rfl rfl rfl rfl sz74 ?_
 clear H; intro _ H; simp only [jA, jB, jC, jD, jE, jF, jG, jH, jI, jJ, jK, Nat.reduceAdd] at H
 refine k_nc ?_
 refine k_seq ?_
 rw [e2, e3] at hp2
 obtain rfl : dk2 = [(600, 1)] := List.perm_singleton.1 hp2
 rw [e2] at H
 have e4 : srt (List.map Prod.fst [((600 : Int), (1 : Int))]) = [600] := List.perm_singleton.1 (srt_perm _)
 rw [e4, show ([((600 : Int), (1 : Int))] : List (Int × Int)).length = 1 from rfl] at H
 obtain ⟨g, rfl⟩ := H.own_some 1 rfl (by simp)
 have e6 : (mget [((700 : Int), (2 : Int))] 700).getD 0 = 2 := by kernel_rfl
 refine k_rg ?_
 refine s_run rfl rfl (r_fa0 rfl fo74_1) ?_
 refine s_run rfl rfl (r_lo H 0 rfl rfl rfl ag25) ?_
 refine s_run rfl rfl (r_len rfl Try.underlying25) ?_
 refine s_run rfl rfl (r_eqlT rfl rfl (by omega)) ?_
 refine s_run rfl rfl (rmb rfl) ?_
 refine s_run rfl (g_on 16 (by kernel_rfl) rfl) (r_fa0 rfl fo74_1) ?_
 refine s_run rfl (g_on 16 (by kernel_rfl) rfl) (r_lo H 0 rfl rfl rfl ag25) ?_
 refine s_run rfl (g_on 16 (by kernel_rfl) rfl) (r_ix1 (i := 0) rfl rfl (by omega) (by omega) Try.underlying25 sz3) ?_
 refine s_run rfl (g_on 16 (by kernel_rfl) rfl) (r_ow H 1 rfl rfl (show ([600] : List Int)[0]? = some 600 from rfl) ag3) ?_
 refine s_run rfl (g_on 16 (by kernel_rfl) rfl) (r_eqlT rfl rfl (by omega)) ?_
 refine s_run rfl rfl (r_pkT (v := .bool _) rfl rfl) ?_
 refine s_run rfl rfl (rmb rfl) ?_
 refine s_run rfl (g_on 23 (by kernel_rfl) rfl) (rmp rfl) ?_
 refine s_call (g_on 23 (by kernel_rfl) rfl) ((by have h := cAge (H.grp_ents 3 rfl) 700 ⟨by omega, by omega⟩; rw [e6] at h; exact h)) (ca67 rfl) ?_
 rintro e W1 ⟨rfl, H'⟩
 refine ⟨_, rfl, ?_⟩
 have H := H.same H'; clear H'
 refine s_run rfl (g_on 23 (by kernel_rfl) rfl) (r_eqlT rfl rfl (by omega)) ?_
 refine s_run rfl rfl (r_pkT (v := .bool _) rfl rfl) ?_
 refine s_run rfl rfl (rab rfl) ?_
 refine k_nc ?_
 refine k_ret ?_
 refine fin1r (v := .bool _) rfl rfl ?_
 exact ⟨rfl, H.only⟩
theorem few48 (A : Option Addr) (n c : Nat) (rs : List CRow) (w : World) (hS : ScriptC w A rs) (hl : rs.length = n) (hn : n ≤ 9223372036854775807) :
  Calls Try.prog 34 [.slice A n c].toArray w fun e w' => ∃ q, e = .returned (.bool q) ∧ (q = true → CsOk w A rs) ∧ Only [] w w' := by
 have H := Heap.nil w
 by_cases h30 : n ≤ 30
 ·refine k_in (N := 47) Try.func34 rfl rfl rfl ?_
  refine k_sg ?_
  refine s_run rfl rfl (rab rfl) ?_
  refine k_nc ?_
  refine k_seq ?_
  refine k_sg ?_
  refine s_run rfl rfl (rms rfl) ?_
  refine s_run rfl rfl (r_len rfl Try.underlying69) ?_
  refine s_run rfl rfl (r_gtrF rfl rfl (by omega)) ?_
  refine k_nc ?_
  refine k_f rfl ?_
  refine k_skip ?_
  refine c_norm ?_
  refine k_seq ?_
  refine k_sg ?_
  refine s_run rfl rfl (rai rfl) ?_
  refine k_nc ?_
  refine k_b ?_
  refine k_loop (fun z f W => ∃ (i : Nat), i ≤ n ∧ z = n - i ∧ (∀ k r, k < i → rs[k]? = some r → r.n ≤ 60 ∧ ∀ x ∈ r.xs, 0 ≤ x ∧ x ≤ 1099511627776) ∧ f 0 = .slice A n c ∧ f 3 = .int .i64 i ∧ Heap w [] [] W) n ⟨0, by omega, rfl, by omega, rfl, rfl, H⟩ ?_
  clear H
  rintro z f W ⟨i, hi, rfl, hlo, f0, f3, H⟩
  by_cases hil : i < n
  ·obtain ⟨r, hr⟩ : ∃ r, rs[i]? = some r := ⟨_, List.getElem?_eq_getElem (by omega)⟩
   have hrm := List.mem_of_getElem? hr
   obtain ⟨b, o, rfl, _, hrd⟩ := hS.1 (by omega)
   have cr : w.cell? ⟨b, o + i, none⟩ = some (.slice r.A r.n r.c) := hrd _ _ hr
   have hro := hS.2 r hrm
   obtain ⟨f, rfl⟩ := live2 f0 f3
   clear f0 f3
   by_cases h60 : r.n ≤ 60
   ·refine k_seq ?_
    refine k_sg ?_
    refine s_run rfl rfl (rmi rfl) ?_
    refine s_run rfl rfl (rms rfl) ?_
    refine s_run rfl rfl (r_len rfl Try.underlying69) ?_
    refine s_run rfl rfl (r_lssT rfl rfl (by omega)) ?_
    refine k_nc ?_
    refine k_t rfl ?_
    refine k_skip ?_
    refine c_norm ?_
    refine k_seq ?_
    refine k_b ?_
    refine k_seq ?_
    refine k_sg ?_
    refine s_run rfl rfl (rms rfl) ?_
    refine s_run rfl rfl (rmi rfl) ?_
    refine s_run rfl rfl (r_ix1o (i := i) rfl rfl (by omega) (by omega) Try.underlying69 sz25) ?_
    refine s_run rfl rfl (r_lr H rfl cr (by simp) ag25) ?_
    refine s_run rfl rfl (r_len rfl Try.underlying25) ?_
    refine s_run rfl rfl (r_gtrF rfl rfl (by omega)) ?_
    refine k_nc ?_
    refine k_f rfl ?_
    refine k_skip ?_
    refine c_norm ?_
    refine k_sg ?_
    refine s_run rfl rfl (rai rfl) ?_
    refine k_nc ?_
    refine k_b ?_
    refine k_loop (fun z f W => ∃ (k : Nat), k ≤ r.n ∧ z = r.n - k ∧ (∀ j y, j < k → r.xs[j]? = some y → 0 ≤ y ∧ y ≤ 1099511627776) ∧ f 0 = .slice (some ⟨b, o, none⟩) n c ∧ f 3 = .int .i64 i ∧ f 4 = .int .i64 k ∧ Heap w [] [] W) r.n ⟨0, by omega, rfl, by omega, rfl, rfl, rfl, H⟩ ?_
    clear H
    rintro z f W ⟨k, hk, rfl, hlk, f0, f3, f4, H⟩
    obtain ⟨f, rfl⟩ := live3 f0 f3 f4
    clear f0 f3 f4
    have hrl := hro.l
    by_cases hkl : k < r.n
    ·obtain ⟨y, hy⟩ : ∃ y, r.xs[k]? = some y := ⟨_, List.getElem?_eq_getElem (by omega)⟩
     obtain ⟨b2, o2, hA2, _, hrd2⟩ := hro.s (by omega)
     have cy := hrd2 _ _ hy
     rw [hA2] at cr
     by_cases hy0 : y < 0
     ·refine k_seq ?_
      refine k_sg ?_
      refine s_run rfl rfl (rmi rfl) ?_
      refine s_run rfl rfl (rms rfl) ?_
      refine s_run rfl rfl (rmi rfl) ?_
      refine s_run rfl rfl (r_ix1o (i := i) rfl rfl (by omega) (by omega) Try.underlying69 sz25) ?_
      refine s_run rfl rfl (r_lr H rfl cr (by simp) ag25) ?_
      refine s_run rfl rfl (r_len rfl Try.underlying25) ?_
      refine s_run rfl rfl (r_lssT rfl rfl (by omega)) ?_
      refine k_nc ?_
      refine k_t rfl ?_
      refine k_skip ?_
      refine c_norm ?_
      refine k_seq ?_
      refine k_b ?_
      refine k_sg ?_
      refine s_run rfl rfl (rms rfl) ?_
      refine s_run rfl rfl (rmi rfl) ?_
      refine s_run rfl rfl (r_ix1o (i := i) rfl rfl (by omega) (by omega) Try.underlying69 sz25) ?_
      refine s_run rfl rfl (r_lr H rfl cr (by simp) ag25) ?_
      refine s_run rfl rfl (rmi rfl) ?_
      refine s_run rfl rfl (r_ix1o (i := k) rfl rfl (by omega) (by omega) Try.underlying25 sz3) ?_
      refine s_run rfl rfl (r_lr H rfl cy (by simp) ag3) ?_
      refine s_run rfl rfl (r_lssT rfl rfl (by omega)) ?_
      refine s_run rfl rfl (rmb rfl) ?_
      refine s_off rfl (g_off 37 (by kernel_rfl) rfl rfl) ?_
      refine s_off rfl (g_off 37 (by kernel_rfl) rfl rfl) ?_
      refine s_off rfl (g_off 37 (by kernel_rfl) rfl rfl) ?_
      refine s_off rfl (g_off 37 (by kernel_rfl) rfl rfl) ?_
      refine s_off rfl (g_off 37 (by kernel_rfl) rfl rfl) ?_
      refine s_off rfl (g_off 37 (by kernel_rfl) rfl rfl) ?_
      refine s_off rfl (g_off 37 (by kernel_rfl) rfl rfl) ?_
      refine s_off rfl (g_off 37 (by kernel_rfl) rfl rfl) ?_
      refine s_run rfl rfl (r_pkT (v := .bool _) rfl rfl) ?_
      refine k_nc ?_
      refine k_t rfl ?_
      refine k_sg ?_
      refine s_run rfl rfl (rab rfl) ?_
      refine k_nc ?_
      refine k_ret ?_
      refine b_ret ?_
      refine c_ret ?_
      refine c_ret ?_
      refine b_ret ?_
      refine b_ret ?_
      refine c_ret ?_
      refine c_ret ?_
      refine b_ret ?_
      refine c_ret ?_
      refine fin1r (v := .bool _) rfl rfl ?_
      exact ⟨false, rfl, by simp, H.only⟩
     ·by_cases hy1 : y ≤ 1099511627776
      ·refine k_seq ?_
       refine k_sg ?_
       refine s_run rfl rfl (rmi rfl) ?_
       refine s_run rfl rfl (rms rfl) ?_
       refine s_run rfl rfl (rmi rfl) ?_
       refine s_run rfl rfl (r_ix1o (i := i) rfl rfl (by omega) (by omega) Try.underlying69 sz25) ?_
       refine s_run rfl rfl (r_lr H rfl cr (by simp) ag25) ?_
       refine s_run rfl rfl (r_len rfl Try.underlying25) ?_
       refine s_run rfl rfl (r_lssT rfl rfl (by omega)) ?_
       refine k_nc ?_
       refine k_t rfl ?_
       refine k_skip ?_
       refine c_norm ?_
       refine k_seq ?_
       refine k_b ?_
       refine k_sg ?_
       refine s_run rfl rfl (rms rfl) ?_
       refine s_run rfl rfl (rmi rfl) ?_
       refine s_run rfl rfl (r_ix1o (i := i) rfl rfl (by omega) (by omega) Try.underlying69 sz25) ?_
       refine s_run rfl rfl (r_lr H rfl cr (by simp) ag25) ?_
       refine s_run rfl rfl (rmi rfl) ?_
       refine s_run rfl rfl (r_ix1o (i := k) rfl rfl (by omega) (by omega) Try.underlying25 sz3) ?_
       refine s_run rfl rfl (r_lr H rfl cy (by simp) ag3) ?_
       refine s_run rfl rfl (r_lssF rfl rfl (by omega)) ?_
       refine s_run rfl rfl (rmb rfl) ?_
       refine s_run rfl (g_on 37 (by kernel_rfl) rfl) (rms rfl) ?_
       refine s_run rfl (g_on 37 (by kernel_rfl) rfl) (rmi rfl) ?_
       refine s_run rfl (g_on 37 (by kernel_rfl) rfl) (r_ix1o (i := i) rfl rfl (by omega) (by omega) Try.underlying69 sz25) ?_
       refine s_run rfl (g_on 37 (by kernel_rfl) rfl) (r_lr H rfl cr (by simp) ag25) ?_
       refine s_run rfl (g_on 37 (by kernel_rfl) rfl) (rmi rfl) ?_
       refine s_run rfl (g_on 37 (by kernel_rfl) rfl) (r_ix1o (i := k) rfl rfl (by omega) (by omega) Try.underlying25 sz3) ?_
       refine s_run rfl (g_on 37 (by kernel_rfl) rfl) (r_lr H rfl cy (by simp) ag3) ?_
       refine s_run rfl (g_on 37 (by kernel_rfl) rfl) (r_gtrF rfl rfl (by omega)) ?_
       refine s_run rfl rfl (r_pkF (v := .bool _) rfl rfl) ?_
       refine k_nc ?_
       refine k_f rfl ?_
       refine k_skip ?_
       refine b_norm ?_
       refine c_norm ?_
       refine k_rg ?_
       refine s_run rfl rfl (rmi rfl) ?_
       refine s_run rfl rfl (r_add rfl rfl (wI (by omega))) ?_
       refine s_run rfl rfl (rai rfl) ?_
       refine k_nil ?_
       refine c_round ?_
       refine ⟨_, _, ?_, rfl, k + 1, by omega, rfl, fun j u hj hu => ?_, rfl, rfl, rfl, H⟩
       ·omega
       ·by_cases e : j = k
        ·subst e; rw [hy] at hu; injection hu with hu; subst hu; omega
        ·exact hlk j u (by omega) hu
      ·refine k_seq ?_
       refine k_sg ?_
       refine s_run rfl rfl (rmi rfl) ?_
       refine s_run rfl rfl (rms rfl) ?_
       refine s_run rfl rfl (rmi rfl) ?_
       refine s_run rfl rfl (r_ix1o (i := i) rfl rfl (by omega) (by omega) Try.underlying69 sz25) ?_
       refine s_run rfl rfl (r_lr H rfl cr (by simp) ag25) ?_
       refine s_run rfl rfl (r_len rfl Try.underlying25) ?_
       refine s_run rfl rfl (r_lssT rfl rfl (by omega)) ?_
       refine k_nc ?_
       refine k_t rfl ?_
       refine k_skip ?_
       refine c_norm ?_
       refine k_seq ?_
       refine k_b ?_
       refine k_sg ?_
       refine s_run rfl rfl (rms rfl) ?_
       refine s_run rfl rfl (rmi rfl) ?_
       refine s_run rfl rfl (r_ix1o (i := i) rfl rfl (by omega) (by omega) Try.underlying69 sz25) ?_
       refine s_run rfl rfl (r_lr H rfl cr (by simp) ag25) ?_
       refine s_run rfl rfl (rmi rfl) ?_
       refine s_run rfl rfl (r_ix1o (i := k) rfl rfl (by omega) (by omega) Try.underlying25 sz3) ?_
       refine s_run rfl rfl (r_lr H rfl cy (by simp) ag3) ?_
       refine s_run rfl rfl (r_lssF rfl rfl (by omega)) ?_
       refine s_run rfl rfl (rmb rfl) ?_
       refine s_run rfl (g_on 37 (by kernel_rfl) rfl) (rms rfl) ?_
       refine s_run rfl (g_on 37 (by kernel_rfl) rfl) (rmi rfl) ?_
       refine s_run rfl (g_on 37 (by kernel_rfl) rfl) (r_ix1o (i := i) rfl rfl (by omega) (by omega) Try.underlying69 sz25) ?_
       refine s_run rfl (g_on 37 (by kernel_rfl) rfl) (r_lr H rfl cr (by simp) ag25) ?_
       refine s_run rfl (g_on 37 (by kernel_rfl) rfl) (rmi rfl) ?_
       refine s_run rfl (g_on 37 (by kernel_rfl) rfl) (r_ix1o (i := k) rfl rfl (by omega) (by omega) Try.underlying25 sz3) ?_
       refine s_run rfl (g_on 37 (by kernel_rfl) rfl) (r_lr H rfl cy (by simp) ag3) ?_
       refine s_run rfl (g_on 37 (by kernel_rfl) rfl) (r_gtrT rfl rfl (by omega)) ?_
       refine s_run rfl rfl (r_pkF (v := .bool _) rfl rfl) ?_
       refine k_nc ?_
       refine k_t rfl ?_
       refine k_sg ?_
       refine s_run rfl rfl (rab rfl) ?_
       refine k_nc ?_
       refine k_ret ?_
       refine b_ret ?_
       refine c_ret ?_
       refine c_ret ?_
       refine b_ret ?_
       refine b_ret ?_
       refine c_ret ?_
       refine c_ret ?_
       refine b_ret ?_
       refine c_ret ?_
       refine fin1r (v := .bool _) rfl rfl ?_
       exact ⟨false, rfl, by simp, H.only⟩
    ·obtain rfl : k = r.n := by omega
     refine k_seq ?_
     refine k_sg ?_
     refine s_run rfl rfl (rmi rfl) ?_
     refine s_run rfl rfl (rms rfl) ?_
     refine s_run rfl rfl (rmi rfl) ?_
     refine s_run rfl rfl (r_ix1o (i := i) rfl rfl (by omega) (by omega) Try.underlying69 sz25) ?_
     refine s_run rfl rfl (r_lr H rfl cr (by simp) ag25) ?_
     refine s_run rfl rfl (r_len rfl Try.underlying25) ?_
     refine s_run rfl rfl (r_lssF rfl rfl (by omega)) ?_
     refine k_nc ?_
     refine k_f rfl ?_
     refine k_exit ?_
     refine c_exit ?_
     refine c_exit ?_
     refine b_hit ?_
     refine b_norm ?_
     refine c_norm ?_
     refine k_rg ?_
     refine s_run rfl rfl (rmi rfl) ?_
     refine s_run rfl rfl (r_add rfl rfl (wI (by omega))) ?_
     refine s_run rfl rfl (rai rfl) ?_
     refine k_nil ?_
     refine c_round ?_
     refine ⟨_, _, ?_, rfl, i + 1, by omega, rfl, fun j u hj hu => ?_, rfl, rfl, H⟩
     ·omega
     ·by_cases e : j = i
      ·subst e; rw [hr] at hu; injection hu with hu; subst hu
       refine ⟨h60, fun x hx => ?_⟩
       obtain ⟨m, hm, e2⟩ := List.mem_iff_getElem.1 hx
       exact hlk m x (by omega) (by rw [List.getElem?_eq_getElem hm, e2])
      ·exact hlo j u (by omega) hu
   ·refine k_seq ?_
    refine k_sg ?_
    refine s_run rfl rfl (rmi rfl) ?_
    refine s_run rfl rfl (rms rfl) ?_
    refine s_run rfl rfl (r_len rfl Try.underlying69) ?_
    refine s_run rfl rfl (r_lssT rfl rfl (by omega)) ?_
    refine k_nc ?_
    refine k_t rfl ?_
    refine k_skip ?_
    refine c_norm ?_
    refine k_seq ?_
    refine k_b ?_
    refine k_seq ?_
    refine k_sg ?_
    refine s_run rfl rfl (rms rfl) ?_
    refine s_run rfl rfl (rmi rfl) ?_
    refine s_run rfl rfl (r_ix1o (i := i) rfl rfl (by omega) (by omega) Try.underlying69 sz25) ?_
    refine s_run rfl rfl (r_lr H rfl cr (by simp) ag25) ?_
    refine s_run rfl rfl (r_len rfl Try.underlying25) ?_
    refine s_run rfl rfl (r_gtrT rfl rfl (by omega)) ?_
    refine k_nc ?_
    refine k_t rfl ?_
    refine k_sg ?_
    refine s_run rfl rfl (rab rfl) ?_
    refine k_nc ?_
    refine k_ret ?_
    refine c_ret ?_
    refine b_ret ?_
    refine c_ret ?_
    refine c_ret ?_
    refine b_ret ?_
    refine c_ret ?_
    refine fin1r (v := .bool _) rfl rfl ?_
    exact ⟨false, rfl, by simp, H.only⟩
  ·obtain rfl : i = n := by omega
   obtain ⟨f, rfl⟩ := live2 f0 f3
   clear f0 f3
   have hg : ∀ r ∈ rs, r.n ≤ 60 ∧ ∀ x ∈ r.xs, 0 ≤ x ∧ x ≤ 1099511627776 := fun r hr => by
    obtain ⟨m, hm, e2⟩ := List.mem_iff_getElem.1 hr
    exact hlo m r (by omega) (by rw [List.getElem?_eq_getElem hm, e2])
   refine k_seq ?_
   refine k_sg ?_
   refine s_run rfl rfl (rmi rfl) ?_
   refine s_run rfl rfl (rms rfl) ?_
   refine s_run rfl rfl (r_len rfl Try.underlying69) ?_
   refine s_run rfl rfl (r_lssF rfl rfl (by omega)) ?_
   refine k_nc ?_
   refine k_f rfl ?_
   refine k_exit ?_
   refine c_exit ?_
   refine c_exit ?_
   refine b_hit ?_
   refine c_norm ?_
   refine k_sg ?_
   refine s_run rfl rfl (rab rfl) ?_
   refine k_nc ?_
   refine k_ret ?_
   refine fin1r (v := .bool _) rfl rfl ?_
   exact ⟨true, rfl, fun _ => ⟨hS, by omega, fun r hr => (hg r hr).1, fun r hr => (hg r hr).2⟩, H.only⟩
 ·refine k_in (N := 47) Try.func34 rfl rfl rfl ?_
  refine k_sg ?_
  refine s_run rfl rfl (rab rfl) ?_
  refine k_nc ?_
  refine k_seq ?_
  refine k_sg ?_
  refine s_run rfl rfl (rms rfl) ?_
  refine s_run rfl rfl (r_len rfl Try.underlying69) ?_
  refine s_run rfl rfl (r_gtrT rfl rfl (by omega)) ?_
  refine k_nc ?_
  refine k_t rfl ?_
  refine k_sg ?_
  refine s_run rfl rfl (rab rfl) ?_
  refine k_nc ?_
  refine k_ret ?_
  refine c_ret ?_
  refine fin1r (v := .bool _) rfl rfl ?_
  exact ⟨false, rfl, by simp, H.only⟩
end Go.Proofs.Ytlakbclnilakbaa
end

section
namespace Go.Proofs.Ytlakbclnilakbaa
open Go.RowKit
set_option maxRecDepth 100000
set_option maxHeartbeats 4000000
open St (Q)
theorem pc_at {l : List Q} {rest : List Value} {i : Nat} {q : Q} (h : l[i]? = some q) : (pc l ++ rest)[i * 2]? = some (.int .i64 q.1) ∧ (pc l ++ rest)[i * 2 + 1]? = some (.int .i64 q.2) := by
 have hp := pc_part (rest := rest) h
 have h0 := congrArg (fun l => l[0]?) hp
 have h1 := congrArg (fun l => l[1]?) hp
 simp only [List.getElem?_take_of_lt (show 0 < 2 by omega), List.getElem?_take_of_lt (show 1 < 2 by omega), List.getElem?_drop] at h0 h1
 exact ⟨h0, h1⟩
theorem oldest48 {p b c : Nat} {A : Option Addr} {nc nb nd : Int} {dead : List Int} {ages : List (Int × Int)} {w : World} (hE : Ents (cnE p b A c nc nb nd ages dead) w) (hb : ∀ x ∈ ages, 0 ≤ x.1 ∧ x.1 ≤ 1099511627776 ∧ 1 ≤ x.2 ∧ x.2 ≤ 30)
  (AA GA : Option Addr) (n ac gc : Nat) (all ags : List Int) (hSa : Sees (Value.int .i64) w [] AA all) (hSg : Sees (Value.int .i64) w [] GA ags) (hla : all.length = n) (hlg : ags.length = n) (hn : n ≤ 60) (hr : all.Pairwise fun x y => x < y) (hp : (all.zip ags).Perm ages) (most : Int) :
  Calls Try.prog 46 [ptrC p, .slice AA n ac, .slice GA n gc, .int .i64 most].toArray w fun e w' => e = .returned (.bool true) ∧ Only [] w w' := by
 have H := Heap.nil w
 have hzl : (all.zip ags).length = n := by rw [List.length_zip]; omega
 have hal : ages.length = n := by rw [← hp.length_eq, hzl]
 obtain ⟨t, ht⟩ : ∃ t : Nat, max 0 (min most (n : Int)) = (t : Int) := ⟨(max 0 (min most n)).toNat, by omega⟩
 have htn : t ≤ n := by omega
 obtain ⟨m, hm⟩ : ∃ m : Int, min most (n : Int) = m := ⟨_, rfl⟩
 have hmx : max 0 m = (t : Int) := by rw [← hm]; exact ht
 have hO := cOldest hE (by omega) (fun x hx => ⟨(hb x hx).1, (hb x hx).2.1⟩) (fun x hx => by have := hb x hx; omega) most
 rw [hal, ht, Int.toNat_natCast] at hO
 refine k_in (N := 90) Try.func46 rfl rfl rfl ?_
 refine k_sg ?_
 refine s_run rfl rfl (rab rfl) ?_
 refine k_nc ?_
 refine k_sg ?_
 refine s_run rfl rfl (rmp rfl) ?_
 refine s_run rfl rfl (rmi rfl) ?_
 refine s_call rfl (hO) (ca73 rfl) ?_
 rintro e W1 ⟨OA, oc, l, rfl, hl, hR⟩
 refine ⟨_, rfl, ?_⟩
 skip
 refine s_run rfl rfl (ras rfl) ?_
 refine k_nc ?_
 refine k_seq ?_
 refine k_seq ?_
 have hlen : l.length = n := by rw [hl, St.ps_len, hal]
 rcases hR with ⟨rfl, rfl, hl0, hO1⟩ | ⟨g, rs, rfl, hcap, H1⟩
 ·have hn0 : n = 0 := by rw [← hlen, hl0]; rfl
  subst hn0
  have ht0 : t = 0 := by omega
  subst ht0
  clear H
  have H := Heap.nil w
  replace H := H.same hO1
  refine k_rg ?_
  refine s_run rfl rfl (rms rfl) ?_
  refine s_run rfl rfl (r_len rfl Try.underlying129) ?_
  refine s_run rfl rfl (rmi rfl) ?_
  refine s_run rfl rfl (rms rfl) ?_
  refine s_run rfl rfl (r_len rfl Try.underlying25) ?_
  refine s_run rfl rfl (r_min (c := m) rfl rfl (by rw [← hm]; split <;> omega)) ?_
  refine s_run rfl rfl (r_max (c := ((0 : Nat) : Int)) rfl rfl (by rw [← hmx]; split <;> omega)) ?_
  refine s_run rfl rfl (r_neqF rfl rfl (by omega)) ?_
  refine k_nc ?_
  refine k_f rfl ?_
  refine k_skip ?_
  refine c_norm ?_
  refine k_sg ?_
  refine s_run rfl rfl (rms rfl) ?_
  refine s_run rfl rfl (r_len rfl Try.underlying25) ?_
  refine s_mk Value.bool false (m := 0) H rfl rfl rfl (by omega) (by omega) (by omega) Try.underlying62 inf4 rfl ?_
  intro bs _ H'; clear H; have H := H'; clear H'
  refine s_run rfl rfl (ras rfl) ?_
  refine k_nc ?_
  refine k_seq ?_
  refine k_sg ?_
  refine s_run rfl rfl (rai rfl) ?_
  refine k_nc ?_
  refine k_b ?_
  refine k_loop (fun z f W => f 9 = .slice none 0 0 ∧ f 11 = .int .i64 0 ∧ Heap w [] [] W) 0 ⟨rfl, rfl, H.drop⟩ ?_
  clear H
  rintro z f W ⟨f9, f11, H⟩
  obtain ⟨f, rfl⟩ := live2 f9 f11
  clear f9 f11
  refine k_seq ?_
  refine k_sg ?_
  refine s_run rfl rfl (rmi rfl) ?_
  refine s_run rfl rfl (rms rfl) ?_
  refine s_run rfl rfl (r_len rfl Try.underlying129) ?_
  refine s_run rfl rfl (r_lssF rfl rfl (by omega)) ?_
  refine k_nc ?_
  refine k_f rfl ?_
  refine k_exit ?_
  refine c_exit ?_
  refine c_exit ?_
  refine b_hit ?_
  refine c_norm ?_
  refine k_sg ?_
  refine s_run rfl rfl (rab rfl) ?_
  refine k_nc ?_
  refine k_ret ?_
  refine fin1r (v := .bool _) rfl rfl ?_
  exact ⟨rfl, H.only⟩
 ·clear H
  have H := H1
  clear H1
  have hPr : (all.zip ags).Pairwise fun x y => x.1 < y.1 := by
   have h1 : ((all.zip ags).map Prod.fst).Pairwise fun x y => x < y := by rw [List.map_fst_zip (by omega)]; exact hr
   exact List.pairwise_map.1 h1
  have hPl : (all.zip ags).Perm l := by rw [hl]; exact hp.trans (St.ps_perm ages).symm
  have hls : l.Pairwise St.le := by rw [hl]; exact St.ps_sorted _
  have hPg : ∀ (i : Nat) (x : Q), (all.zip ags)[i]? = some x → all[i]? = some x.1 ∧ ags[i]? = some x.2 := fun i x h => List.getElem?_zip_eq_some.1 h
  generalize all.zip ags = P at *
  refine k_rg ?_
  refine s_run rfl rfl (rms rfl) ?_
  refine s_run rfl rfl (r_len rfl Try.underlying129) ?_
  refine s_run rfl rfl (rmi rfl) ?_
  refine s_run rfl rfl (rms rfl) ?_
  refine s_run rfl rfl (r_len rfl Try.underlying25) ?_
  refine s_run rfl rfl (r_min (c := m) rfl rfl (by rw [← hm]; split <;> omega)) ?_
  refine s_run rfl rfl (r_max (c := (t : Int)) rfl rfl (by rw [← hmx]; split <;> omega)) ?_
  refine s_run rfl rfl (r_neqF rfl rfl (by omega)) ?_
  refine k_nc ?_
  refine k_f rfl ?_
  refine k_skip ?_
  refine c_norm ?_
  refine k_sg ?_
  refine s_run rfl rfl (rms rfl) ?_
  refine s_run rfl rfl (r_len rfl Try.underlying25) ?_
  refine s_mk Value.bool false (m := n) H rfl rfl rfl (by omega) (by omega) (by omega) Try.underlying62 inf4 rfl ?_
  intro bs _ H'; clear H; have H := H'; clear H'
  refine s_run rfl rfl (ras rfl) ?_
  refine k_nc ?_
  refine k_seq ?_
  refine k_sg ?_
  refine s_run rfl rfl (rai rfl) ?_
  refine k_nc ?_
  refine k_b ?_
  refine k_loop (fun z f W => ∃ (k : Nat) (G : List Bool), k ≤ t ∧ z = t - k ∧ G.length = n ∧ (Cn.left2 P G).Perm (l.drop k) ∧ f 1 = .slice AA n ac ∧ f 2 = .slice GA n gc ∧ f 9 = .slice (some ⟨g, 0, none⟩) t oc ∧ f 10 = .slice (some ⟨bs, 0, none⟩) n n ∧ f 11 = .int .i64 k ∧ Heap w [] [vec Value.bool bs G 4, prow g l rs 132] W) t ⟨0, List.replicate n false, by omega, rfl, by simp, by rw [← hzl, Cn.left2_all]; exact hPl, rfl, rfl, rfl, rfl, rfl, H⟩ ?_
  clear H
  rintro z f W ⟨k, G, hk, rfl, hG, hleft, f1, f2, f9, f10, f11, H⟩
  obtain ⟨f, rfl⟩ := live5 f1 f2 f9 f10 f11
  clear f1 f2 f9 f10 f11
  by_cases hkt : k < t
  ·refine k_seq ?_
   refine k_sg ?_
   refine s_run rfl rfl (rmi rfl) ?_
   refine s_run rfl rfl (rms rfl) ?_
   refine s_run rfl rfl (r_len rfl Try.underlying129) ?_
   refine s_run rfl rfl (r_lssT rfl rfl (by omega)) ?_
   refine k_nc ?_
   refine k_t rfl ?_
   refine k_skip ?_
   refine c_norm ?_
   refine k_seq ?_
   refine k_b ?_
   refine k_sg ?_
   refine s_run rfl rfl (rai rfl) ?_
   refine k_nc ?_
   refine k_seq ?_
   refine k_sg ?_
   refine s_run rfl rfl (rai rfl) ?_
   refine k_nc ?_
   refine k_b ?_
   refine k_loop (fun z f W => ∃ (i : Nat) (b : Int), i ≤ n ∧ z = n - i ∧ Cn.Best P G i b ∧ f 1 = .slice AA n ac ∧ f 2 = .slice GA n gc ∧ f 9 = .slice (some ⟨g, 0, none⟩) t oc ∧ f 10 = .slice (some ⟨bs, 0, none⟩) n n ∧ f 11 = .int .i64 k ∧ f 12 = .int .i64 b ∧ f 13 = .int .i64 i ∧ Heap w [] [vec Value.bool bs G 4, prow g l rs 132] W) n ⟨0, -1, by omega, rfl, Cn.Best.start _ _, rfl, rfl, rfl, rfl, rfl, rfl, rfl, H⟩ ?_
   clear H
   rintro z f W ⟨i, b, hi, rfl, hB, f1, f2, f9, f10, f11, f12, f13, H⟩
   by_cases hin : i < n
   ·obtain ⟨x, hx⟩ : ∃ x, P[i]? = some x := ⟨_, List.getElem?_eq_getElem (by omega)⟩
    obtain ⟨y, hy⟩ : ∃ y, G[i]? = some y := ⟨_, List.getElem?_eq_getElem (by omega)⟩
    obtain ⟨hx1, hx2⟩ := hPg i x hx
    obtain ⟨q, o, rfl, _, hrd⟩ := hSg (by omega)
    have ci : w.cell? ⟨q, o + i, none⟩ = some (.int .i64 x.2) := hrd _ _ hx2
    obtain ⟨f, rfl⟩ := live7S f1 f2 f9 f10 f11 f12 f13
    clear f1 f2 f9 f10 f11 f12 f13
    cases y with
    | true =>
     refine k_seq ?_
     refine k_sg ?_
     refine s_run rfl rfl (rmi rfl) ?_
     refine s_run rfl rfl (rms rfl) ?_
     refine s_run rfl rfl (r_len rfl Try.underlying25) ?_
     refine s_run rfl rfl (r_lssT rfl rfl (by omega)) ?_
     refine k_nc ?_
     refine k_t rfl ?_
     refine k_skip ?_
     refine c_norm ?_
     refine k_seq ?_
     refine k_b ?_
     refine k_seq ?_
     refine k_q mixed (by kernel_rfl) H ?_
     refine q_run rfl rfl (fun _ H => r_mv (v := .slice _ _ _) rfl) ?_
     refine q_run rfl rfl (fun _ H => r_mv (v := .int _ _) rfl) ?_
     refine q_run rfl rfl (fun _ H => r_ix1 (i := i) rfl rfl (by omega) (by omega) Try.underlying62 sz4) ?_
     refine q_run rfl rfl (fun _ H => r_lv H 0 rfl rfl hy ag4) ?_
     refine q_run rfl rfl (fun _ H => r_notT rfl) ?_
     refine q_run rfl rfl (fun _ H => r_mv (v := .bool _) rfl) ?_
     refine q_off rfl (g_off 45 (by kernel_rfl) rfl rfl) ?_
     refine q_off rfl (g_off 45 (by kernel_rfl) rfl rfl) ?_
     refine q_off rfl (g_off 45 (by kernel_rfl) rfl rfl) ?_
     refine q_off rfl (g_un 48 (by kernel_rfl) rfl) ?_
     refine q_off rfl (g_un 48 (by kernel_rfl) rfl) ?_
     refine q_off rfl (g_un 48 (by kernel_rfl) rfl) ?_
     refine q_off rfl (g_un 48 (by kernel_rfl) rfl) ?_
     refine q_off rfl (g_un 48 (by kernel_rfl) rfl) ?_
     refine q_off rfl (g_un 48 (by kernel_rfl) rfl) ?_
     refine q_off rfl (g_un 48 (by kernel_rfl) rfl) ?_
     refine q_off rfl (g_un 48 (by kernel_rfl) rfl) ?_
     refine q_off rfl (g_un 48 (by kernel_rfl) rfl) ?_
     refine q_off rfl (g_off 45 (by kernel_rfl) rfl rfl) ?_
     refine q_run rfl rfl (fun _ H => r_pkF (v := .bool _) rfl rfl) ?_
     refine q_nil ?_
     intro _ H'; clear H; have H := H'; clear H'
     refine c_norm ?_
     refine k_f rfl ?_
     refine k_skip ?_
     refine b_norm ?_
     refine c_norm ?_
     refine k_rg ?_
     refine s_run rfl rfl (rmi rfl) ?_
     refine s_run rfl rfl (r_add rfl rfl (wI (by omega))) ?_
     refine s_run rfl rfl (rai rfl) ?_
     refine k_nil ?_
     refine c_round ?_
     exact ⟨_, _, by omega, rfl, i + 1, b, by omega, rfl, hB.gone hy, rfl, rfl, rfl, rfl, rfl, rfl, rfl, H⟩
    | false =>
     by_cases hb0 : b < 0
     ·have hb1 : b = -1 := by
       rcases hB with ⟨h1, _⟩ | ⟨k2, _, h1, _⟩
       ·exact h1
       ·omega
      subst hb1
      refine k_seq ?_
      refine k_sg ?_
      refine s_run rfl rfl (rmi rfl) ?_
      refine s_run rfl rfl (rms rfl) ?_
      refine s_run rfl rfl (r_len rfl Try.underlying25) ?_
      refine s_run rfl rfl (r_lssT rfl rfl (by omega)) ?_
      refine k_nc ?_
      refine k_t rfl ?_
      refine k_skip ?_
      refine c_norm ?_
      refine k_seq ?_
      refine k_b ?_
      refine k_seq ?_
      refine k_q mixed (by kernel_rfl) H ?_
      refine q_run rfl rfl (fun _ H => r_mv (v := .slice _ _ _) rfl) ?_
      refine q_run rfl rfl (fun _ H => r_mv (v := .int _ _) rfl) ?_
      refine q_run rfl rfl (fun _ H => r_ix1 (i := i) rfl rfl (by omega) (by omega) Try.underlying62 sz4) ?_
      refine q_run rfl rfl (fun _ H => r_lv H 0 rfl rfl hy ag4) ?_
      refine q_run rfl rfl (fun _ H => r_notF rfl) ?_
      refine q_run rfl rfl (fun _ H => r_mv (v := .bool _) rfl) ?_
      refine q_run rfl (g_on 45 (by kernel_rfl) rfl) (fun _ H => r_mv (v := .int _ _) rfl) ?_
      refine q_run rfl (g_on 45 (by kernel_rfl) rfl) (fun _ H => r_lssT rfl rfl (by omega)) ?_
      refine q_run rfl (g_on 45 (by kernel_rfl) rfl) (fun _ H => r_mv (v := .bool _) rfl) ?_
      refine q_off rfl (g_off 48 (by kernel_rfl) rfl rfl) ?_
      refine q_off rfl (g_off 48 (by kernel_rfl) rfl rfl) ?_
      refine q_off rfl (g_off 48 (by kernel_rfl) rfl rfl) ?_
      refine q_off rfl (g_off 48 (by kernel_rfl) rfl rfl) ?_
      refine q_off rfl (g_off 48 (by kernel_rfl) rfl rfl) ?_
      refine q_off rfl (g_off 48 (by kernel_rfl) rfl rfl) ?_
      refine q_off rfl (g_off 48 (by kernel_rfl) rfl rfl) ?_
      refine q_off rfl (g_off 48 (by kernel_rfl) rfl rfl) ?_
      refine q_off rfl (g_off 48 (by kernel_rfl) rfl rfl) ?_
      refine q_run rfl (g_on 45 (by kernel_rfl) rfl) (fun _ H => r_pkT (v := .bool _) rfl rfl) ?_
      refine q_run rfl rfl (fun _ H => r_pkT (v := .bool _) rfl rfl) ?_
      refine q_nil ?_
      intro _ H'; clear H; have H := H'; clear H'
      refine c_norm ?_
      refine k_t rfl ?_
      refine k_rg ?_
      refine s_run rfl rfl (rmi rfl) ?_
      refine s_run rfl rfl (rai rfl) ?_
      refine k_nil ?_
      refine b_norm ?_
      refine c_norm ?_
      refine k_rg ?_
      refine s_run rfl rfl (rmi rfl) ?_
      refine s_run rfl rfl (r_add rfl rfl (wI (by omega))) ?_
      refine s_run rfl rfl (rai rfl) ?_
      refine k_nil ?_
      refine c_round ?_
      exact ⟨_, _, by omega, rfl, i + 1, i, by omega, rfl, hB.first hy hx, rfl, rfl, rfl, rfl, rfl, rfl, rfl, H⟩
     ·obtain ⟨k2, rfl, hk2, z2, hz2⟩ : ∃ k2 : Nat, b = k2 ∧ k2 < n ∧ ∃ z2, P[k2]? = some z2 := by
       rcases hB with ⟨h1, _⟩ | ⟨k2, z2, h1, h2, _, h4, _⟩
       ·omega
       ·exact ⟨k2, h1, by omega, z2, h4⟩
      have hB2 := hB.next hy hx hz2
      have cz : w.cell? ⟨q, o + k2, none⟩ = some (.int .i64 z2.2) := hrd _ _ (hPg k2 z2 hz2).2
      by_cases hc : x.2 > z2.2
      ·rw [if_pos hc] at hB2
       refine k_seq ?_
       refine k_sg ?_
       refine s_run rfl rfl (rmi rfl) ?_
       refine s_run rfl rfl (rms rfl) ?_
       refine s_run rfl rfl (r_len rfl Try.underlying25) ?_
       refine s_run rfl rfl (r_lssT rfl rfl (by omega)) ?_
       refine k_nc ?_
       refine k_t rfl ?_
       refine k_skip ?_
       refine c_norm ?_
       refine k_seq ?_
       refine k_b ?_
       refine k_seq ?_
       refine k_q mixed (by kernel_rfl) H ?_
       refine q_run rfl rfl (fun _ H => r_mv (v := .slice _ _ _) rfl) ?_
       refine q_run rfl rfl (fun _ H => r_mv (v := .int _ _) rfl) ?_
       refine q_run rfl rfl (fun _ H => r_ix1 (i := i) rfl rfl (by omega) (by omega) Try.underlying62 sz4) ?_
       refine q_run rfl rfl (fun _ H => r_lv H 0 rfl rfl hy ag4) ?_
       refine q_run rfl rfl (fun _ H => r_notF rfl) ?_
       refine q_run rfl rfl (fun _ H => r_mv (v := .bool _) rfl) ?_
       refine q_run rfl (g_on 45 (by kernel_rfl) rfl) (fun _ H => r_mv (v := .int _ _) rfl) ?_
       refine q_run rfl (g_on 45 (by kernel_rfl) rfl) (fun _ H => r_lssF rfl rfl (by omega)) ?_
       refine q_run rfl (g_on 45 (by kernel_rfl) rfl) (fun _ H => r_mv (v := .bool _) rfl) ?_
       refine q_run rfl (g_on 48 (by kernel_rfl) rfl) (fun _ H => r_mv (v := .slice _ _ _) rfl) ?_
       refine q_run rfl (g_on 48 (by kernel_rfl) rfl) (fun _ H => r_mv (v := .int _ _) rfl) ?_
       refine q_run rfl (g_on 48 (by kernel_rfl) rfl) (fun _ H => r_ix1o (i := i) rfl rfl (by omega) (by omega) Try.underlying25 sz3) ?_
       refine q_run rfl (g_on 48 (by kernel_rfl) rfl) (fun _ H => r_lr H rfl ci (by simp) ag3) ?_
       refine q_run rfl (g_on 48 (by kernel_rfl) rfl) (fun _ H => r_mv (v := .slice _ _ _) rfl) ?_
       refine q_run rfl (g_on 48 (by kernel_rfl) rfl) (fun _ H => r_mv (v := .int _ _) rfl) ?_
       refine q_run rfl (g_on 48 (by kernel_rfl) rfl) (fun _ H => r_ix1o (i := k2) rfl rfl (by omega) (by omega) Try.underlying25 sz3) ?_
       refine q_run rfl (g_on 48 (by kernel_rfl) rfl) (fun _ H => r_lr H rfl cz (by simp) ag3) ?_
       refine q_run rfl (g_on 48 (by kernel_rfl) rfl) (fun _ H => r_gtrT rfl rfl (by omega)) ?_
       refine q_run rfl (g_on 45 (by kernel_rfl) rfl) (fun _ H => r_pkF (v := .bool _) rfl rfl) ?_
       refine q_run rfl rfl (fun _ H => r_pkT (v := .bool _) rfl rfl) ?_
       refine q_nil ?_
       intro _ H'; clear H; have H := H'; clear H'
       refine c_norm ?_
       refine k_t rfl ?_
       refine k_rg ?_
       refine s_run rfl rfl (rmi rfl) ?_
       refine s_run rfl rfl (rai rfl) ?_
       refine k_nil ?_
       refine b_norm ?_
       refine c_norm ?_
       refine k_rg ?_
       refine s_run rfl rfl (rmi rfl) ?_
       refine s_run rfl rfl (r_add rfl rfl (wI (by omega))) ?_
       refine s_run rfl rfl (rai rfl) ?_
       refine k_nil ?_
       refine c_round ?_
       exact ⟨_, _, by omega, rfl, i + 1, i, by omega, rfl, hB2, rfl, rfl, rfl, rfl, rfl, rfl, rfl, H⟩
      ·rw [if_neg hc] at hB2
       refine k_seq ?_
       refine k_sg ?_
       refine s_run rfl rfl (rmi rfl) ?_
       refine s_run rfl rfl (rms rfl) ?_
       refine s_run rfl rfl (r_len rfl Try.underlying25) ?_
       refine s_run rfl rfl (r_lssT rfl rfl (by omega)) ?_
       refine k_nc ?_
       refine k_t rfl ?_
       refine k_skip ?_
       refine c_norm ?_
       refine k_seq ?_
       refine k_b ?_
       refine k_seq ?_
       refine k_q mixed (by kernel_rfl) H ?_
       refine q_run rfl rfl (fun _ H => r_mv (v := .slice _ _ _) rfl) ?_
       refine q_run rfl rfl (fun _ H => r_mv (v := .int _ _) rfl) ?_
       refine q_run rfl rfl (fun _ H => r_ix1 (i := i) rfl rfl (by omega) (by omega) Try.underlying62 sz4) ?_
       refine q_run rfl rfl (fun _ H => r_lv H 0 rfl rfl hy ag4) ?_
       refine q_run rfl rfl (fun _ H => r_notF rfl) ?_
       refine q_run rfl rfl (fun _ H => r_mv (v := .bool _) rfl) ?_
       refine q_run rfl (g_on 45 (by kernel_rfl) rfl) (fun _ H => r_mv (v := .int _ _) rfl) ?_
       refine q_run rfl (g_on 45 (by kernel_rfl) rfl) (fun _ H => r_lssF rfl rfl (by omega)) ?_
       refine q_run rfl (g_on 45 (by kernel_rfl) rfl) (fun _ H => r_mv (v := .bool _) rfl) ?_
       refine q_run rfl (g_on 48 (by kernel_rfl) rfl) (fun _ H => r_mv (v := .slice _ _ _) rfl) ?_
       refine q_run rfl (g_on 48 (by kernel_rfl) rfl) (fun _ H => r_mv (v := .int _ _) rfl) ?_
       refine q_run rfl (g_on 48 (by kernel_rfl) rfl) (fun _ H => r_ix1o (i := i) rfl rfl (by omega) (by omega) Try.underlying25 sz3) ?_
       refine q_run rfl (g_on 48 (by kernel_rfl) rfl) (fun _ H => r_lr H rfl ci (by simp) ag3) ?_
       refine q_run rfl (g_on 48 (by kernel_rfl) rfl) (fun _ H => r_mv (v := .slice _ _ _) rfl) ?_
       refine q_run rfl (g_on 48 (by kernel_rfl) rfl) (fun _ H => r_mv (v := .int _ _) rfl) ?_
       refine q_run rfl (g_on 48 (by kernel_rfl) rfl) (fun _ H => r_ix1o (i := k2) rfl rfl (by omega) (by omega) Try.underlying25 sz3) ?_
       refine q_run rfl (g_on 48 (by kernel_rfl) rfl) (fun _ H => r_lr H rfl cz (by simp) ag3) ?_
       refine q_run rfl (g_on 48 (by kernel_rfl) rfl) (fun _ H => r_gtrF rfl rfl (by omega)) ?_
       refine q_run rfl (g_on 45 (by kernel_rfl) rfl) (fun _ H => r_pkF (v := .bool _) rfl rfl) ?_
       refine q_run rfl rfl (fun _ H => r_pkT (v := .bool _) rfl rfl) ?_
       refine q_nil ?_
       intro _ H'; clear H; have H := H'; clear H'
       refine c_norm ?_
       refine k_f rfl ?_
       refine k_skip ?_
       refine b_norm ?_
       refine c_norm ?_
       refine k_rg ?_
       refine s_run rfl rfl (rmi rfl) ?_
       refine s_run rfl rfl (r_add rfl rfl (wI (by omega))) ?_
       refine s_run rfl rfl (rai rfl) ?_
       refine k_nil ?_
       refine c_round ?_
       exact ⟨_, _, by omega, rfl, i + 1, k2, by omega, rfl, hB2, rfl, rfl, rfl, rfl, rfl, rfl, rfl, H⟩
   ·obtain rfl : i = n := by omega
    obtain ⟨m2, x, rfl, hm2, hPx, hGx, hlx, hleft2⟩ := hB.take (by rw [hzl]) hG hPr hls hleft (by omega)
    obtain ⟨hx1, hx2⟩ := hPg m2 x hPx
    obtain ⟨q, o, rfl, _, hrd⟩ := hSg (by omega)
    obtain ⟨q2, o2, rfl, _, hrd2⟩ := hSa (by omega)
    have cg : w.cell? ⟨q, o + m2, none⟩ = some (.int .i64 x.2) := hrd _ _ hx2
    have ca : w.cell? ⟨q2, o2 + m2, none⟩ = some (.int .i64 x.1) := hrd2 _ _ hx1
    obtain ⟨c1, c2⟩ := pc_at (rest := rs) hlx
    obtain ⟨f, rfl⟩ := live7S f1 f2 f9 f10 f11 f12 f13
    clear f1 f2 f9 f10 f11 f12 f13
    refine k_seq ?_
    refine k_sg ?_
    refine s_run rfl rfl (rmi rfl) ?_
    refine s_run rfl rfl (rms rfl) ?_
    refine s_run rfl rfl (r_len rfl Try.underlying25) ?_
    refine s_run rfl rfl (r_lssF rfl rfl (by omega)) ?_
    refine k_nc ?_
    refine k_f rfl ?_
    refine k_exit ?_
    refine c_exit ?_
    refine c_exit ?_
    refine b_hit ?_
    refine c_norm ?_
    refine k_seq ?_
    refine k_seq ?_
    refine k_q mixed (by kernel_rfl) H ?_
    refine q_run rfl rfl (fun _ H => r_mv (v := .int _ _) rfl) ?_
    refine q_run rfl rfl (fun _ H => r_lssF rfl rfl (by omega)) ?_
    refine q_run rfl rfl (fun _ H => r_mv (v := .bool _) rfl) ?_
    refine q_run rfl (g_on 63 (by kernel_rfl) rfl) (fun _ H => r_mv (v := .slice _ _ _) rfl) ?_
    refine q_run rfl (g_on 63 (by kernel_rfl) rfl) (fun _ H => r_mv (v := .int _ _) rfl) ?_
    refine q_run rfl (g_on 63 (by kernel_rfl) rfl) (fun _ H => r_ix0 (i := k) rfl rfl (by omega) (by omega) Try.underlying129 sz132) ?_
    refine q_run rfl (g_on 63 (by kernel_rfl) rfl) (fun _ H => r_fa rfl fo132_0) ?_
    refine q_run rfl (g_on 63 (by kernel_rfl) rfl) (fun _ H => r_lo H 1 rfl rfl c1 ag3) ?_
    refine q_run rfl (g_on 63 (by kernel_rfl) rfl) (fun _ H => r_mv (v := .slice _ _ _) rfl) ?_
    refine q_run rfl (g_on 63 (by kernel_rfl) rfl) (fun _ H => r_mv (v := .int _ _) rfl) ?_
    refine q_run rfl (g_on 63 (by kernel_rfl) rfl) (fun _ H => r_ix1o (i := m2) rfl rfl (by omega) (by omega) Try.underlying25 sz3) ?_
    refine q_run rfl (g_on 63 (by kernel_rfl) rfl) (fun _ H => r_lr H rfl ca (by simp) ag3) ?_
    refine q_run rfl (g_on 63 (by kernel_rfl) rfl) (fun _ H => r_neqF rfl rfl (by omega)) ?_
    refine q_run rfl rfl (fun _ H => r_pkF (v := .bool _) rfl rfl) ?_
    refine q_run rfl rfl (fun _ H => r_mv (v := .bool _) rfl) ?_
    refine q_run rfl (g_on 75 (by kernel_rfl) rfl) (fun _ H => r_mv (v := .slice _ _ _) rfl) ?_
    refine q_run rfl (g_on 75 (by kernel_rfl) rfl) (fun _ H => r_mv (v := .int _ _) rfl) ?_
    refine q_run rfl (g_on 75 (by kernel_rfl) rfl) (fun _ H => r_ix0 (i := k) rfl rfl (by omega) (by omega) Try.underlying129 sz132) ?_
    refine q_run rfl (g_on 75 (by kernel_rfl) rfl) (fun _ H => r_fa rfl fo132_1) ?_
    refine q_run rfl (g_on 75 (by kernel_rfl) rfl) (fun _ H => r_lo H 1 rfl rfl c2 ag3) ?_
    refine q_run rfl (g_on 75 (by kernel_rfl) rfl) (fun _ H => r_mv (v := .slice _ _ _) rfl) ?_
    refine q_run rfl (g_on 75 (by kernel_rfl) rfl) (fun _ H => r_mv (v := .int _ _) rfl) ?_
    refine q_run rfl (g_on 75 (by kernel_rfl) rfl) (fun _ H => r_ix1o (i := m2) rfl rfl (by omega) (by omega) Try.underlying25 sz3) ?_
    refine q_run rfl (g_on 75 (by kernel_rfl) rfl) (fun _ H => r_lr H rfl cg (by simp) ag3) ?_
    refine q_run rfl (g_on 75 (by kernel_rfl) rfl) (fun _ H => r_neqF rfl rfl (by omega)) ?_
    refine q_run rfl rfl (fun _ H => r_pkF (v := .bool _) rfl rfl) ?_
    refine q_nil ?_
    intro _ H'; clear H; have H := H'; clear H'
    refine c_norm ?_
    refine k_f rfl ?_
    refine k_skip ?_
    refine c_norm ?_
    refine k_rg ?_
    refine s_run rfl rfl (rms rfl) ?_
    refine s_run rfl rfl (rmi rfl) ?_
    refine s_run rfl rfl (r_ix1 (i := m2) rfl rfl (by omega) (by omega) Try.underlying62 sz4) ?_
    refine s_sv (u := .bool _) H 0 rfl rfl rfl rfl rfl (by omega) (fun _ => rfl) sz4 ?_
    clear H; intro _ H; simp only [jA, jB, jC, jD, jE, jF, jG, jH, jI, jJ, jK, Nat.reduceAdd] at H
    refine k_nil ?_
    refine b_norm ?_
    refine c_norm ?_
    refine k_rg ?_
    refine s_run rfl rfl (rmi rfl) ?_
    refine s_run rfl rfl (r_add rfl rfl (wI (by omega))) ?_
    refine s_run rfl rfl (rai rfl) ?_
    refine k_nil ?_
    refine c_round ?_
    exact ⟨_, _, by omega, rfl, k + 1, G.set m2 true, by omega, rfl, by rw [List.length_set]; exact hG, hleft2, rfl, rfl, rfl, rfl, rfl, H⟩
  ·obtain rfl : k = t := by omega
   refine k_seq ?_
   refine k_sg ?_
   refine s_run rfl rfl (rmi rfl) ?_
   refine s_run rfl rfl (rms rfl) ?_
   refine s_run rfl rfl (r_len rfl Try.underlying129) ?_
   refine s_run rfl rfl (r_lssF rfl rfl (by omega)) ?_
   refine k_nc ?_
   refine k_f rfl ?_
   refine k_exit ?_
   refine c_exit ?_
   refine c_exit ?_
   refine b_hit ?_
   refine c_norm ?_
   refine k_sg ?_
   refine s_run rfl rfl (rab rfl) ?_
   refine k_nc ?_
   refine k_ret ?_
   refine fin1r (v := .bool _) rfl rfl ?_
   exact ⟨rfl, H.only⟩
end Go.Proofs.Ytlakbclnilakbaa
end
