/- Parts of the proof, one behind the other. -/
import Derived.WalkKit
import Derived.Deep.RegionHeld3
import Derived.Test.YtdgmlfpikgjnlaaKGraphJoinsa
set_option linter.unusedSimpArgs false
set_option linter.unusedVariables false
section
namespace Go.Proofs.Ytdgmlfpikgjnlaa.Gr
theorem count_flat_perm {pt : Int → List Int} {A B : List Int} (h : A.Perm B) (y : Int) : (flat pt A).count y = (flat pt B).count y := by
 induction h with
 | nil => rfl
 | cons x _ ih => simp only [flat, List.flatMap_cons, List.count_append] at ih ⊢; omega
 | swap x z l => simp only [flat, List.flatMap_cons, List.count_append]; omega
 | trans _ _ a b => omega
theorem count_flat_cons (pt : Int → List Int) (a : Int) (L : List Int) (y : Int) : (flat pt (a :: L)).count y = (pt a).count y + (flat pt L).count y := by
 simp only [flat, List.flatMap_cons, List.count_append]
/-- some of L, and the rest -/
theorem count_flat_sub {pt : Int → List Int} : ∀ (X L : List Int), X.Nodup → (∀ x ∈ X, x ∈ L) → ∀ y, (flat pt X).count y ≤ (flat pt L).count y ∧ (∀ a ∈ L, a ∉ X → y ∈ pt a → (flat pt X).count y < (flat pt L).count y)
 | [], L, _, _, y => by
  refine ⟨by simp [flat], fun a ha _ hy => ?_⟩
  have h1 := count_flat_perm (pt := pt) (List.perm_cons_erase ha) y
  have h2 := count_flat_cons pt a (L.erase a) y
  have h3 : 0 < (pt a).count y := List.count_pos_iff.2 hy
  have h4 : (flat pt []).count y = 0 := rfl
  omega
 | x :: X, L, hd, hs, y => by
  have hx := hs x (by simp)
  have h1 := count_flat_perm (pt := pt) (List.perm_cons_erase hx) y
  have h2 := count_flat_cons pt x (L.erase x) y
  have h3 := count_flat_cons pt x X y
  obtain ⟨i1, i2⟩ := count_flat_sub (pt := pt) X (L.erase x) (List.nodup_cons.1 hd).2 (fun z hz => by
   have hne : z ≠ x := fun e => (List.nodup_cons.1 hd).1 (e ▸ hz)
   exact (List.mem_erase_of_ne hne).2 (hs z (by simp [hz]))) y
  refine ⟨by omega, fun a ha hn hy => ?_⟩
  have hne : a ≠ x := fun e => hn (by simp [e])
  have := i2 a ((List.mem_erase_of_ne hne).2 ha) (fun h => hn (by simp [h])) hy
  omega
/-- the counts behind so many pointers D, and who is open -/
structure KI (pt : Int → List Int) (L : List Int) (n : Nat) (D inn op : List Int) : Prop where
 len : inn.length = n
 val : ∀ y : Nat, y < n → inn.getD y 0 = ((flat pt L).count (y : Int) : Int) - (D.count (y : Int) : Int)
 nd : op.Nodup
 mem : ∀ y, y ∈ op ↔ y ∈ L ∧ (flat pt L).count y = D.count y
theorem KI.neg {pt : Int → List Int} {L : List Int} {n : Nat} {D inn op : List Int} (h : KI pt L n D inn op) (hL : ∀ x ∈ L, 0 ≤ x) (p : Int) (hp : p < 0) : KI pt L n (D ++ [p]) inn op := by
 have e : ∀ y : Int, 0 ≤ y → (D ++ [p]).count y = D.count y := fun y hy => by
  rw [List.count_append, List.count_singleton]
  have : ¬ (p == y) = true := by simp; omega
  rw [if_neg this]; omega
 refine ⟨h.len, fun y hy => by rw [e _ (by omega)]; exact h.val y hy, h.nd, fun y => ?_⟩
 rw [h.mem y]
 constructor
 ·rintro ⟨h1, h2⟩; exact ⟨h1, by rw [e y (hL y h1)]; exact h2⟩
 ·rintro ⟨h1, h2⟩; exact ⟨h1, by rw [e y (hL y h1)] at h2; exact h2⟩
theorem KI.step {pt : Int → List Int} {L : List Int} {n : Nat} {D inn op : List Int} (h : KI pt L n D inn op) (p : Nat) (hpn : p < n) (hp : (p : Int) ∈ L) (hle : D.count (p : Int) < (flat pt L).count (p : Int)) :
  KI pt L n (D ++ [(p : Int)]) (inn.set p (inn.getD p 0 - 1)) (if inn.getD p 0 - 1 = 0 then op ++ [(p : Int)] else op) := by
 have hv := h.val p hpn
 have e1 : (D ++ [(p : Int)]).count (p : Int) = D.count (p : Int) + 1 := by rw [List.count_append, List.count_singleton]; simp
 have e2 : ∀ y : Int, y ≠ (p : Int) → (D ++ [(p : Int)]).count y = D.count y := fun y hy => by
  rw [List.count_append, List.count_singleton]
  have : ¬ ((p : Int) == y) = true := by simp; omega
  rw [if_neg this]; omega
 have hnot : (p : Int) ∉ op := fun hm => by
  have := ((h.mem _).1 hm).2
  omega
 refine ⟨by rw [List.length_set]; exact h.len, fun y hy => ?_, ?_, fun y => ?_⟩
 ·by_cases hyp : y = p
  ·subst hyp
   rw [e1]
   simp only [List.getD, List.getElem?_set_self (show y < inn.length by rw [h.len]; exact hy), Option.getD_some]
   simp only [List.getD] at hv
   omega
  ·rw [e2 y (by omega)]
   have : (inn.set p (inn.getD p 0 - 1)).getD y 0 = inn.getD y 0 := by
    simp only [List.getD]; rw [List.getElem?_set_ne (by omega)]
   rw [this]; exact h.val y hy
 ·split
  ·refine List.nodup_append.2 ⟨h.nd, by simp, fun a ha b hb e => ?_⟩
   obtain rfl := List.mem_singleton.1 hb
   exact hnot (e ▸ ha)
  ·exact h.nd
 ·by_cases hyp : y = (p : Int)
  ·subst hyp
   split
   ·rename_i hz
    constructor
    ·intro _; exact ⟨hp, by rw [e1]; omega⟩
    ·intro _; exact List.mem_append_right _ (by simp)
   ·rename_i hz
    constructor
    ·intro hm; exact absurd hm hnot
    ·rintro ⟨_, h2⟩
     rw [e1] at h2
     exfalso; apply hz; omega
  ·have : y ∈ (if inn.getD p 0 - 1 = 0 then op ++ [(p : Int)] else op) ↔ y ∈ op := by
    split
    ·rw [List.mem_append, List.mem_singleton]
     constructor
     ·rintro (h1 | h1)
      ·exact h1
      ·exact absurd h1 hyp
     ·exact .inl
    ·rfl
   rw [this, e2 y hyp]
   exact h.mem y
end Go.Proofs.Ytdgmlfpikgjnlaa.Gr
end

section
namespace Go.Proofs.Ytdgmlfpikgjnlaa.Gr
/-- one less leads to p -/
def kd (s : List Int × List Int) (p : Int) : List Int × List Int :=
 if p < 0 then s else (s.1.set p.toNat (s.1.getD p.toNat 0 - 1), if s.1.getD p.toNat 0 - 1 = 0 then s.2 ++ [p] else s.2)
/-- counts right, and all that is open comes from those ahead alone -/
structure KS (pt : Int → List Int) (L : List Int) (n : Nat) (D : List Int) (s : List Int × List Int) : Prop where
 ki : KI pt L n D s.1 s.2
 ac : ∀ y ∈ s.2, Acc (fun a b => a ∈ L ∧ b ∈ pt a) y
variable {pt : Int → List Int} {L : List Int} {n : Nat}
theorem KS.one (hL : ∀ x ∈ L, 0 ≤ x ∧ x < (n : Int)) (hcl : ∀ x ∈ L, ∀ y ∈ pt x, 0 ≤ y → y ∈ L) {D : List Int} {s : List Int × List Int} (h : KS pt L n D s) (X cs : List Int) (p : Int) (hX : X.Nodup) (hXo : ∀ x ∈ X, x ∈ s.2) (hD : flat pt X = D ++ p :: cs) : KS pt L n (D ++ [p]) (kd s p) ∧ ∀ x ∈ X, x ∈ (kd s p).2 := by
 unfold kd
 by_cases hp : p < 0
 ·rw [if_pos hp]
  exact ⟨⟨h.ki.neg (fun x hx => (hL x hx).1) p hp, h.ac⟩, hXo⟩
 ·rw [if_neg hp]
  obtain ⟨q, rfl⟩ := Int.eq_ofNat_of_zero_le (show 0 ≤ p by omega)
  rw [Int.toNat_natCast]
  have hXL : ∀ x ∈ X, x ∈ L := fun x hx => ((h.ki.mem x).1 (hXo x hx)).1
  have hmem : (q : Int) ∈ flat pt X := by rw [hD]; exact List.mem_append_right _ (by simp)
  obtain ⟨x, hx, hqx⟩ := List.mem_flatMap.1 hmem
  have hqL : (q : Int) ∈ L := hcl x (hXL x hx) _ hqx (by omega)
  have hqn : q < n := by have := (hL _ hqL).2; omega
  have hs := count_flat_sub (pt := pt) X L hX hXL (q : Int)
  have hc : (flat pt X).count (q : Int) = D.count (q : Int) + (1 + cs.count (q : Int)) := by
   rw [hD, List.count_append, List.count_cons]; simp; omega
  have hlt : D.count (q : Int) < (flat pt L).count (q : Int) := by omega
  have hk := h.ki.step q hqn hqL hlt
  have hv := h.ki.val q hqn
  refine ⟨⟨hk, fun y hy => ?_⟩, fun x hx => ?_⟩
  ·simp only at hy
   split at hy
   ·rename_i hz
    rcases List.mem_append.1 hy with hy | hy
    ·exact h.ac y hy
    ·obtain rfl := List.mem_singleton.1 hy
     refine ⟨_, fun a ha => ?_⟩
     have haX : a ∈ X := by
      apply Classical.byContradiction
      intro hn
      have := hs.2 a ha.1 hn ha.2
      omega
     exact h.ac a (hXo a haX)
   ·exact h.ac y hy
  ·simp only
   split
   ·exact List.mem_append_left _ (hXo x hx)
   ·exact hXo x hx
theorem KS.row (hL : ∀ x ∈ L, 0 ≤ x ∧ x < (n : Int)) (hcl : ∀ x ∈ L, ∀ y ∈ pt x, 0 ≤ y → y ∈ L) (X : List Int) (hX : X.Nodup) : ∀ (cs D : List Int) (s : List Int × List Int), KS pt L n D s → (∀ x ∈ X, x ∈ s.2) → flat pt X = D ++ cs → KS pt L n (flat pt X) (cs.foldl kd s) ∧ ∀ x ∈ X, x ∈ (cs.foldl kd s).2
 | [], D, s, h, hXo, hD => by rw [hD, List.append_nil]; exact ⟨h, hXo⟩
 | p :: cs, D, s, h, hXo, hD => by
  obtain ⟨h1, h2⟩ := h.one hL hcl X cs p hX hXo hD
  exact KS.row hL hcl X hX cs (D ++ [p]) (kd s p) h1 h2 (by rw [hD]; simp)
end Go.Proofs.Ytdgmlfpikgjnlaa.Gr
end

section
namespace Go.Proofs.Ytdgmlfpikgjnlaa.Gr
abbrev Nodes := List (List Int × List Int)
def ptr (ns : Nodes) (x : Int) : List Int := if x < 0 then [] else (ns.getD x.toNat ([], [])).1
def dat (ns : Nodes) (x : Int) : List Int := if x < 0 then [] else (ns.getD x.toNat ([], [])).2
theorem ptr_at (ns : Nodes) (i : Nat) : ptr ns (i : Int) = (ns.getD i ([], [])).1 := by
 unfold ptr; rw [if_neg (by omega), Int.toNat_natCast]
theorem dat_at (ns : Nodes) (i : Nat) : dat ns (i : Int) = (ns.getD i ([], [])).2 := by
 unfold dat; rw [if_neg (by omega), Int.toNat_natCast]
/-- from -1 on, below n -/
def Rt (roots : List Int) (ns : Nodes) : Prop := (∀ r ∈ roots, -1 ≤ r ∧ r < (ns.length : Int)) ∧ ∀ x ∈ ns, ∀ p ∈ x.1, -1 ≤ p ∧ p < (ns.length : Int)
theorem Rt.ptr {roots : List Int} {ns : Nodes} (h : Rt roots ns) (x : Int) : ∀ y ∈ ptr ns x, -1 ≤ y ∧ y < (ns.length : Int) := by
 intro y hy
 unfold Gr.ptr at hy
 split at hy
 ·cases hy
 ·simp only [List.getD] at hy
  cases e : ns[x.toNat]? with
  | none => rw [e] at hy; cases hy
  | some v => rw [e] at hy; exact h.2 v (List.mem_of_getElem? e) y hy
theorem Rt.ord {roots : List Int} {ns : Nodes} (h : Rt roots ns) {o : List Int} (ho : IsOrd (Gr.ptr ns) roots o) : ∀ x ∈ o, 0 ≤ x ∧ x < (ns.length : Int) := by
 obtain ⟨k, hk⟩ := ho
 have := (st_P (Gr.ptr ns) ⟨[], roots⟩ (fun x => x < (ns.length : Int)) (fun x hx _ => (h.1 x hx).2) (fun x hx => by cases hx) (fun x _ _ y hy _ => (h.ptr x y hy).2) k).2
 rw [hk] at this
 exact this
def canonR (roots o : List Int) : List Int := roots.map (fnd o)
def canonN (ns : Nodes) (o : List Int) : Nodes := o.map fun x => ((ptr ns x).map (fnd o), dat ns x)
theorem fnd_bd (l : List Int) (x : Int) (hd : l.Nodup) : -1 ≤ fnd l x ∧ fnd l x < (l.length : Int) := by
 by_cases h : x ∈ l
 ·obtain ⟨i, hi, _, e⟩ := fnd_mem l x hd h
  omega
 ·rw [fnd_no l x h]; omega
end Go.Proofs.Ytdgmlfpikgjnlaa.Gr
end

section
namespace Go.Proofs.Ytdgmlfpikgjnlaa
open Go.RowKit
abbrev ptr (b : Nat) : Value := .pointer (some ⟨b, 0, none⟩)
theorem gIn (x : Int) (b n c m d : Nat) (A B : Option Addr) (w : World) (hE : Ents [blk b [.slice A n c, .slice B m d] 25] w) (hm : m ≤ 9223372036854775807) :
  Calls Try.prog 59 [.int .i64 x, ptr b].toArray w fun e w' => e = .returned (.bool (decide (-1 ≤ x ∧ x < (m : Int)))) ∧ Only [] w w' := by
 have HR := Heap.start hE
 have H := Heap.nil w
 by_cases h1 : -1 ≤ x
 ·by_cases h2 : x < (m : Int)
  ·rw [decide_eq_true ⟨h1, h2⟩]
   refine k_in (N := 13) Try.func59 rfl rfl rfl ?_
   refine k_sg ?_
   refine s_run rfl rfl (rab rfl) ?_
   refine k_nc ?_
   refine k_sg ?_
   refine s_run rfl rfl (rmi rfl) ?_
   refine s_run rfl rfl (r_geqT rfl rfl (by omega)) ?_
   refine s_run rfl rfl (rmb rfl) ?_
   refine s_run rfl (g_on 6 (by kernel_rfl) rfl) (rmi rfl) ?_
   refine s_run rfl (g_on 6 (by kernel_rfl) rfl) (r_fa0 rfl fo25_1) ?_
   refine s_run rfl (g_on 6 (by kernel_rfl) rfl) (r_lo (HR.same H.only) 0 rfl rfl rfl ag23) ?_
   refine s_run rfl (g_on 6 (by kernel_rfl) rfl) (r_len rfl Try.underlying23) ?_
   refine s_run rfl (g_on 6 (by kernel_rfl) rfl) (r_lssT rfl rfl (by omega)) ?_
   refine s_run rfl rfl (r_pkT (v := .bool _) rfl rfl) ?_
   refine s_run rfl rfl (rab rfl) ?_
   refine k_nc ?_
   refine k_ret ?_
   refine fin1r (v := .bool _) rfl rfl ?_
   exact ⟨rfl, H.only⟩
  ·rw [decide_eq_false (fun h => h2 h.2)]
   refine k_in (N := 13) Try.func59 rfl rfl rfl ?_
   refine k_sg ?_
   refine s_run rfl rfl (rab rfl) ?_
   refine k_nc ?_
   refine k_sg ?_
   refine s_run rfl rfl (rmi rfl) ?_
   refine s_run rfl rfl (r_geqT rfl rfl (by omega)) ?_
   refine s_run rfl rfl (rmb rfl) ?_
   refine s_run rfl (g_on 6 (by kernel_rfl) rfl) (rmi rfl) ?_
   refine s_run rfl (g_on 6 (by kernel_rfl) rfl) (r_fa0 rfl fo25_1) ?_
   refine s_run rfl (g_on 6 (by kernel_rfl) rfl) (r_lo (HR.same H.only) 0 rfl rfl rfl ag23) ?_
   refine s_run rfl (g_on 6 (by kernel_rfl) rfl) (r_len rfl Try.underlying23) ?_
   refine s_run rfl (g_on 6 (by kernel_rfl) rfl) (r_lssF rfl rfl (by omega)) ?_
   refine s_run rfl rfl (r_pkT (v := .bool _) rfl rfl) ?_
   refine s_run rfl rfl (rab rfl) ?_
   refine k_nc ?_
   refine k_ret ?_
   refine fin1r (v := .bool _) rfl rfl ?_
   exact ⟨rfl, H.only⟩
 ·rw [decide_eq_false (fun h => h1 h.1)]
  refine k_in (N := 13) Try.func59 rfl rfl rfl ?_
  refine k_sg ?_
  refine s_run rfl rfl (rab rfl) ?_
  refine k_nc ?_
  refine k_sg ?_
  refine s_run rfl rfl (rmi rfl) ?_
  refine s_run rfl rfl (r_geqF rfl rfl (by omega)) ?_
  refine s_run rfl rfl (rmb rfl) ?_
  refine s_off rfl (g_off 6 (by kernel_rfl) rfl rfl) ?_
  refine s_off rfl (g_off 6 (by kernel_rfl) rfl rfl) ?_
  refine s_off rfl (g_off 6 (by kernel_rfl) rfl rfl) ?_
  refine s_off rfl (g_off 6 (by kernel_rfl) rfl rfl) ?_
  refine s_off rfl (g_off 6 (by kernel_rfl) rfl rfl) ?_
  refine s_run rfl rfl (r_pkF (v := .bool _) rfl rfl) ?_
  refine s_run rfl rfl (rab rfl) ?_
  refine k_nc ?_
  refine k_ret ?_
  refine fin1r (v := .bool _) rfl rfl ?_
  exact ⟨rfl, H.only⟩
end Go.Proofs.Ytdgmlfpikgjnlaa
end

section
namespace Go.Proofs.Ytdgmlfpikgjnlaa
open Go.RowKit
def comeE (p1 p2 bs m : Nat) (A : Option Addr) (k : Nat) (seen : List Bool) (out : List Int) : List Ent := [blk p1 [.slice (some ⟨bs, 0, none⟩) m m] 60, vec Value.bool bs seen 4, blk p2 [.slice A out.length k] 22, ownN 1 (.slice A out.length k) out.length (out.map (Value.int .i64)) 3]
theorem gCome (c : Int) (p1 p2 bs m : Nat) (A : Option Addr) (k : Nat) (seen : List Bool) (out : List Int) (w : World) (hE : Ents (comeE p1 p2 bs m A k seen out) w) (hl : seen.length = m) (hc : c < (m : Int)) (hm : m ≤ 1000) (ho : out.length ≤ 1000) :
  Calls Try.prog 79 [.int .i64 c, ptr p1, ptr p2].toArray w fun e w' => e = .returned (.tuple #[]) ∧ ∃ A' k', Heap w (ids (comeE p1 p2 bs m A k seen out)) (comeE p1 p2 bs m A' k' (if 0 ≤ c then seen.set c.toNat true else seen) (if 0 ≤ c ∧ seen.getD c.toNat true = false then out ++ [c] else out)) w' := by
 have H := Heap.start hE
 generalize ids (comeE p1 p2 bs m A k seen out) = F at *
 unfold comeE at H
 by_cases h0 : 0 ≤ c
 ·obtain ⟨i, rfl⟩ := Int.eq_ofNat_of_zero_le h0
  have hi : i < seen.length := by omega
  rw [if_pos h0, Int.toNat_natCast]
  have hg : seen[i]? = some (seen.getD i true) := by simp [List.getD, List.getElem?_eq_getElem hi]
  cases hs : seen.getD i true with
  | true =>
   rw [hs] at hg
   have e1 : seen.set i true = seen := by
    have hq : seen[i] = true := Option.some.inj ((List.getElem?_eq_getElem hi).symm.trans hg)
    rw [← hq]
    exact List.set_getElem_self hi
   rw [if_neg (by simp), e1]
   refine k_in (N := 20) Try.func79 rfl rfl rfl ?_
   refine k_sg ?_
   refine s_run rfl rfl (rmi rfl) ?_
   refine s_run rfl rfl (r_geqT rfl rfl (by omega)) ?_
   refine s_run rfl rfl (rmb rfl) ?_
   refine s_run rfl (g_on 6 (by kernel_rfl) rfl) (r_lo H 0 rfl rfl rfl ag60) ?_
   refine s_run rfl (g_on 6 (by kernel_rfl) rfl) (rmi rfl) ?_
   refine s_run rfl (g_on 6 (by kernel_rfl) rfl) (r_ix1 (i := i) rfl rfl (by omega) (by omega) Try.underlying60 sz4) ?_
   refine s_run rfl (g_on 6 (by kernel_rfl) rfl) (r_lv H 1 rfl rfl hg ag4) ?_
   refine s_run rfl (g_on 6 (by kernel_rfl) rfl) (r_notT rfl) ?_
   refine s_run rfl rfl (r_pkT (v := .bool _) rfl rfl) ?_
   refine k_nc ?_
   refine k_f rfl ?_
   refine k_skip ?_
   refine fin0  rfl ?_
   exact ⟨rfl, A, k, H⟩
  | false =>
   rw [hs] at hg
   rw [if_pos ⟨h0, rfl⟩]
   refine k_in (N := 20) Try.func79 rfl rfl rfl ?_
   refine k_sg ?_
   refine s_run rfl rfl (rmi rfl) ?_
   refine s_run rfl rfl (r_geqT rfl rfl (by omega)) ?_
   refine s_run rfl rfl (rmb rfl) ?_
   refine s_run rfl (g_on 6 (by kernel_rfl) rfl) (r_lo H 0 rfl rfl rfl ag60) ?_
   refine s_run rfl (g_on 6 (by kernel_rfl) rfl) (rmi rfl) ?_
   refine s_run rfl (g_on 6 (by kernel_rfl) rfl) (r_ix1 (i := i) rfl rfl (by omega) (by omega) Try.underlying60 sz4) ?_
   refine s_run rfl (g_on 6 (by kernel_rfl) rfl) (r_lv H 1 rfl rfl hg ag4) ?_
   refine s_run rfl (g_on 6 (by kernel_rfl) rfl) (r_notF rfl) ?_
   refine s_run rfl rfl (r_pkT (v := .bool _) rfl rfl) ?_
   refine k_nc ?_
   refine k_t rfl ?_
   refine k_sg ?_
   refine s_run rfl rfl (r_lo H 0 rfl rfl rfl ag60) ?_
   refine s_run rfl rfl (rmi rfl) ?_
   refine s_run rfl rfl (r_ix1 (i := i) rfl rfl (by omega) (by omega) Try.underlying60 sz4) ?_
   refine s_sv (u := .bool _) H 1 rfl rfl rfl rfl rfl (by omega) (fun _ => rfl) sz4 ?_
   clear H; intro _ H; simp only [jA, jB, jC, jD, jE, jF, jG, jH, jI, jJ, jK, Nat.reduceAdd] at H
   refine k_nc ?_
   refine k_rg ?_
   refine s_run rfl rfl (r_lo H 2 rfl rfl rfl ag22) ?_
   refine s_run rfl rfl (rmi rfl) ?_
   refine s_app1 (enc := (Value.int .i64)) H 3 rfl rfl rfl rfl rfl rfl rfl (by omega) Try.underlying22 inf3 rfl ?_
   intro _ An cn _ H'; simp only [List.set_cons_zero, List.set_cons_succ, List.take_succ_cons, List.take_zero, List.drop_succ_cons, List.drop_zero, List.cons_append, List.nil_append, List.append_nil, List.length_cons, List.length_nil, Nat.reduceAdd] at H'; clear H; have H := H'; clear H'
   refine s_st (u := .slice _ _ _) H 2 rfl rfl rfl rfl rfl rfl sz22 ?_
   clear H; intro _ H; simp only [jA, jB, jC, jD, jE, jF, jG, jH, jI, jJ, jK, Nat.reduceAdd] at H
   refine k_nil ?_
   refine fin0  rfl ?_
   refine ⟨rfl, ?_, ?_, ?_⟩
   rotate_left 2
   unfold comeE
   rw [List.length_append]
   exact H
 ·rw [if_neg h0, if_neg (fun h => h0 h.1)]
  refine k_in (N := 20) Try.func79 rfl rfl rfl ?_
  refine k_sg ?_
  refine s_run rfl rfl (rmi rfl) ?_
  refine s_run rfl rfl (r_geqF rfl rfl (by omega)) ?_
  refine s_run rfl rfl (rmb rfl) ?_
  refine s_off rfl (g_off 6 (by kernel_rfl) rfl rfl) ?_
  refine s_off rfl (g_off 6 (by kernel_rfl) rfl rfl) ?_
  refine s_off rfl (g_off 6 (by kernel_rfl) rfl rfl) ?_
  refine s_off rfl (g_off 6 (by kernel_rfl) rfl rfl) ?_
  refine s_off rfl (g_off 6 (by kernel_rfl) rfl rfl) ?_
  refine s_run rfl rfl (r_pkF (v := .bool _) rfl rfl) ?_
  refine k_nc ?_
  refine k_f rfl ?_
  refine k_skip ?_
  refine fin0  rfl ?_
  exact ⟨rfl, A, k, H⟩
end Go.Proofs.Ytdgmlfpikgjnlaa
end

section
namespace Go.Proofs.Ytdgmlfpikgjnlaa
open Go.RowKit
/-- a node, as a graph's row holds it -/
structure NodeS where
 A : Option Addr
 n : Nat
 c : Nat
 ps : List Int
 B : Option Addr
 m : Nat
 d : Nat
 ds : List Int
def NodeS.cells (x : NodeS) : List Value := [.slice x.A x.n x.c, .slice x.B x.m x.d]
structure NodeOk (w : World) (F : List Nat) (x : NodeS) : Prop where
 ps : Sees (Value.int .i64) w F x.A x.ps
 pl : x.ps.length = x.n
 ds : Sees (Value.int .u64) w F x.B x.ds
 dl : x.ds.length = x.m
 pb : ∀ p ∈ x.ps, -9223372036854775808 ≤ p ∧ p ≤ 9223372036854775807
 db : ∀ p ∈ x.ds, 0 ≤ p ∧ p ≤ 18446744073709551615
 nb : x.n ≤ 9223372036854775807
 mb : x.m ≤ 9223372036854775807
def NodesOk (w : World) (F : List Nat) (A : Option Addr) (ns : List NodeS) : Prop :=
 (ns.length ≠ 0 → ∃ b o, A = some ⟨b, o, none⟩ ∧ b ∉ F ∧ ∀ i x, ns[i]? = some x → Reads (fun v : Value => v) w b (o + i * 2) x.cells) ∧ ∀ x ∈ ns, NodeOk w F x
/-- a graph, as a value holds it -/
structure GrS where
 A : Option Addr
 n : Nat
 c : Nat
 rs : List Int
 B : Option Addr
 m : Nat
 d : Nat
 ns : List NodeS
def GrS.cells (g : GrS) : List Value := [.slice g.A g.n g.c, .slice g.B g.m g.d]
structure GrOk (w : World) (F : List Nat) (g : GrS) : Prop where
 rs : Sees (Value.int .i64) w F g.A g.rs
 rl : g.rs.length = g.n
 rb : ∀ p ∈ g.rs, -9223372036854775808 ≤ p ∧ p ≤ 9223372036854775807
 ns : NodesOk w F g.B g.ns
 nl : g.ns.length = g.m
 nb : g.n ≤ 9223372036854775807
 mb : g.m ≤ 9223372036854775807
theorem NodeOk.later {w W : World} {F G : List Nat} {x : NodeS} (h : NodeOk w F x) (hO : Only G w W) (hG : ∀ i ∈ G, i ∈ F) : NodeOk W F x :=
 ⟨h.ps.later hO hG, h.pl, h.ds.later hO hG, h.dl, h.pb, h.db, h.nb, h.mb⟩
theorem NodesOk.later {w W : World} {F G : List Nat} {A : Option Addr} {ns : List NodeS} (h : NodesOk w F A ns) (hO : Only G w W) (hG : ∀ i ∈ G, i ∈ F) : NodesOk W F A ns :=
 ⟨fun h0 => by
  obtain ⟨b, o, e, hb, hr⟩ := h.1 h0
  exact ⟨b, o, e, hb, fun i x hi => (hr i x hi).later hO (fun hm => hb (hG b hm))⟩, fun x hx => (h.2 x hx).later hO hG⟩
theorem GrOk.later {w W : World} {F G : List Nat} {g : GrS} (h : GrOk w F g) (hO : Only G w W) (hG : ∀ i ∈ G, i ∈ F) : GrOk W F g :=
 ⟨h.rs.later hO hG, h.rl, h.rb, h.ns.later hO hG, h.nl, h.nb, h.mb⟩
theorem Heap.one {w0 W : World} {F : List Nat} {L : List Ent} {E : Ent} (H : Heap w0 F L W) (k : Nat) (hk : L[k]? = some E) : Ents [E] W := Heap.part (A := [E]) (H.pick k hk)
/-- its nodes, plainly -/
def GrS.nodes (g : GrS) : Gr.Nodes := g.ns.map fun x => (x.ps, x.ds)
end Go.Proofs.Ytdgmlfpikgjnlaa
end

section
namespace Go.Proofs.Ytdgmlfpikgjnlaa
open Go.RowKit
theorem fm_range {α : Type _} (L : List α) : (List.range L.length).filterMap (fun i => L[i]?) = L := by
 induction L with
 | nil => rfl
 | cons a l ih =>
  rw [List.length_cons, List.range_succ_eq_map, List.filterMap_cons]
  simp only [List.getElem?_cons_zero, List.filterMap_map, Function.comp_def, List.getElem?_cons_succ]
  rw [ih]
/-- the entries in another order -/
theorem Heap.order {w0 W : World} {F : List Nat} {L L' : List Ent} (H : Heap w0 F L W) (p : List Nat) (hp : p.isPerm (List.range L.length) = true) (hL : p.filterMap (fun i => L[i]?) = L') : Heap w0 F L' W := by
 refine H.perm ?_
 rw [← hL]
 have h1 := (List.isPerm_iff.1 hp).filterMap (fun i => L[i]?)
 rw [fm_range] at h1
 exact h1.symm
/-- what an iterator wants kept: some blocks -/
def Kp (K : List Nat) (W W' : World) : Prop := ∀ i ∈ K, W'.heap[i]? = W.heap[i]?
theorem Kp.ents {A : List Ent} {W W' : World} (h : Kp (ids A) W W') (hA : Ents A W) : Ents A W' :=
 ⟨fun E hE => E.loc W W' (fun i hi => h i (mem_ids.2 ⟨E, hE, hi⟩)) (hA.1 E hE), hA.2⟩
theorem Kp.trans {K : List Nat} {A B C : World} (h : Kp K A B) (k : Kp K B C) : Kp K A C := fun i hi => (k i hi).trans (h i hi)
section
variable {P : Program} {ops : Array Oper} {rest : List Oper} {n : Sz} {k id : Nat} {f : Nat → Value} {W w0 : World} {F : List Nat} {L : List Ent} {Q : Exit → Act → World → Prop} {v : Value} {o : Oper}
/-- a cell that is known -/
theorem r_lc {x : Operand} {dst : Option Tmp} {t ty : TypeId} {pos : String} {af : Array Edge} {g : Option (Nat × Bool)} {p i : Nat} (hc : W.cell? ⟨p, i, none⟩ = some v) (hx : ev n f x = .pointer (some ⟨p, i, none⟩)) (hagg : ∀ W, (isAgg t).run P W = .ok false W) : (execOp (ev n f) ⟨dst, .load t x, ty, pos, af, g⟩).run P W = .ok (.value v) W :=
 r_lr (Heap.nil W) hx hc (by simp) hagg
end
end Go.Proofs.Ytdgmlfpikgjnlaa
end

section
namespace Go.Proofs.Ytdgmlfpikgjnlaa
open Go.RowKit
set_option maxRecDepth 100000
def okP (m : Nat) (p : Int) : Prop := -1 ≤ p ∧ p < (m : Int)
instance (m : Nat) (p : Int) : Decidable (okP m p) := by unfold okP; infer_instance
def okN (m : Nat) (x : NodeS) : Prop := x.n ≤ 63 ∧ x.m ≤ 16384 ∧ ∀ p ∈ x.ps, okP m p
instance (m : Nat) (x : NodeS) : Decidable (okN m x) := by unfold okN; infer_instance
def rightB (g : GrS) : Bool := decide ((∀ r ∈ g.rs, okP g.m r) ∧ ∀ x ∈ g.ns, okN g.m x)
theorem gInS {b n c m d : Nat} {A B : Option Addr} (hm : m ≤ 9223372036854775807) (x : Int) {w : World} (hE : Ents [blk b [.slice A n c, .slice B m d] 25] w) :
  Calls Try.prog 59 [.int .i64 x, ptr b].toArray w fun e w' => e = .returned (.bool (decide (okP m x))) ∧ Only [] w w' := gIn x b n c m d A B w hE hm
theorem gRight (g : GrS) (w : World) (hg : GrOk w [] g) :
  Calls Try.prog 29 [.agg g.cells.toArray].toArray w fun e w' => e = .returned (.bool (rightB g)) ∧ Only [] w w' := by
 have H := Heap.nil w
 have hrs := hg.rs
 have hrl := hg.rl
 have hmb := hg.mb
 have hnb := hg.nb
 have hnl := hg.nl
 have hbad1 : ∀ r ∈ g.rs, ¬ okP g.m r → rightB g = false := fun r hr hn => decide_eq_false fun h => hn (h.1 r hr)
 have hbad2 : ∀ x ∈ g.ns, ¬ okN g.m x → rightB g = false := fun r hr hn => decide_eq_false fun h => hn (h.2 r hr)
 have hgood : (∀ j r, j < g.n → g.rs[j]? = some r → okP g.m r) → (∀ j x, j < g.m → g.ns[j]? = some x → okN g.m x) → rightB g = true := fun h1 h2 => decide_eq_true ⟨fun r hr => by
  obtain ⟨j, hj, rfl⟩ := List.mem_iff_getElem.1 hr
  exact h1 j _ (by omega) (List.getElem?_eq_getElem hj), fun r hr => by
  obtain ⟨j, hj, rfl⟩ := List.mem_iff_getElem.1 hr
  exact h2 j _ (by omega) (List.getElem?_eq_getElem hj)⟩
 have hI := fun b x W hE => gInS (b := b) (n := g.n) (c := g.c) (d := g.d) (A := g.A) (B := g.B) hmb x (w := W) hE
 unfold GrS.cells
 refine k_in (N := 53) Try.func29 rfl rfl rfl ?_
 refine k_sg ?_
 refine s_box H rfl rfl ?_
 intro p1 _ H'; clear H; have H := H'; clear H'
 refine s_run rfl rfl (rab rfl) ?_
 refine k_nc ?_
 refine k_sg ?_
 refine s_run rfl rfl (r_mkf rfl) ?_
 refine s_run rfl rfl (r_as (v := .func _ _ _) rfl) ?_
 refine k_nc ?_
 refine k_seq ?_
 refine k_sg ?_
 refine s_run rfl rfl (r_fa0 rfl fo25_0) ?_
 refine s_run rfl rfl (r_lo H 0 rfl rfl rfl ag22) ?_
 refine s_run rfl rfl (r_len rfl Try.underlying22) ?_
 refine s_run rfl rfl (rmi rfl) ?_
 refine k_nc ?_
 refine k_b ?_
 refine k_loop (fun z f W => ∃ i : Nat, i ≤ g.n ∧ z = g.n - i ∧ (∀ j r, j < i → g.rs[j]? = some r → okP g.m r) ∧ f 1 = ptr p1 ∧ f 3 = .func (.func 59) #[] [ptr p1].toArray ∧ f 12 = .slice g.A g.n g.c ∧ f 13 = .int .i64 g.n ∧ f 14 = .int .i64 i ∧ Heap w [] [blk p1 [.slice g.A g.n g.c, .slice g.B g.m g.d] 25] W) g.n ⟨0, by omega, rfl, by omega, rfl, rfl, rfl, rfl, rfl, H⟩ ?_
 clear H
 rintro z f W ⟨i, hi, rfl, hall, f1, f3, f12, f13, f14, H⟩
 by_cases hlt : i < g.n
 ·obtain ⟨r, hr⟩ : ∃ r, g.rs[i]? = some r := ⟨_, List.getElem?_eq_getElem (by omega)⟩
  obtain ⟨b, o, hA, _, hrd⟩ := hrs (by omega)
  have hcell := hrd i r hr
  rw [hA] at f12
  obtain ⟨f, rfl⟩ := live5 f1 f3 f12 f13 f14
  clear f1 f3 f12 f13 f14
  have hIr := hI p1 r
  by_cases hok : okP g.m r
  ·rw [decide_eq_true hok] at hIr
   refine k_sg ?_
   refine s_run rfl rfl (r_lssT rfl rfl (by omega)) ?_
   refine k_nc ?_
   refine k_seq ?_
   refine k_t rfl ?_
   refine k_skip ?_
   refine c_norm ?_
   refine k_seq ?_
   refine k_b ?_
   refine k_sg ?_
   refine s_run rfl rfl (r_ix1o (i := i) rfl rfl (by omega) (by omega) Try.underlying22 sz3) ?_
   refine s_run rfl rfl (r_lr H rfl hcell (by simp) ag3) ?_
   refine s_run rfl rfl (rai rfl) ?_
   refine k_nc ?_
   refine k_sg ?_
   refine s_run rfl rfl (r_mv (v := .func _ _ _) rfl) ?_
   refine s_run rfl rfl (rmi rfl) ?_
   refine s_callV rfl rfl rfl Try.func59 (by kernel_rfl) (by kernel_rfl) (hIr _ (H.one 0 rfl)) ?_
   rintro e W1 ⟨rfl, H'⟩
   refine ⟨_, rfl, ?_⟩
   have H := H.same H'; clear H'
   refine s_run rfl rfl (r_notT rfl) ?_
   refine k_nc ?_
   refine k_f rfl ?_
   refine k_skip ?_
   refine b_norm ?_
   refine c_norm ?_
   refine k_rg ?_
   refine s_run rfl rfl (r_add rfl rfl (wI (by omega))) ?_
   refine s_run rfl rfl (rmi rfl) ?_
   refine k_nil ?_
   refine c_round ?_
   refine ⟨_, _, ?_, rfl, i + 1, by omega, rfl, fun j q hj hq => ?_, rfl, rfl, by rw [hA]; rfl, rfl, rfl, H⟩
   ·omega
   ·by_cases e : j = i
    ·subst e; rw [hr] at hq; injection hq with hq; subst hq; exact hok
    ·exact hall j q (by omega) hq
  ·rw [decide_eq_false hok] at hIr
   rw [hbad1 r (List.mem_of_getElem? hr) hok]
   refine k_sg ?_
   refine s_run rfl rfl (r_lssT rfl rfl (by omega)) ?_
   refine k_nc ?_
   refine k_seq ?_
   refine k_t rfl ?_
   refine k_skip ?_
   refine c_norm ?_
   refine k_seq ?_
   refine k_b ?_
   refine k_sg ?_
   refine s_run rfl rfl (r_ix1o (i := i) rfl rfl (by omega) (by omega) Try.underlying22 sz3) ?_
   refine s_run rfl rfl (r_lr H rfl hcell (by simp) ag3) ?_
   refine s_run rfl rfl (rai rfl) ?_
   refine k_nc ?_
   refine k_sg ?_
   refine s_run rfl rfl (r_mv (v := .func _ _ _) rfl) ?_
   refine s_run rfl rfl (rmi rfl) ?_
   refine s_callV rfl rfl rfl Try.func59 (by kernel_rfl) (by kernel_rfl) (hIr _ (H.one 0 rfl)) ?_
   rintro e W1 ⟨rfl, H'⟩
   refine ⟨_, rfl, ?_⟩
   have H := H.same H'; clear H'
   refine s_run rfl rfl (r_notF rfl) ?_
   refine k_nc ?_
   refine k_t rfl ?_
   refine k_sg ?_
   refine s_run rfl rfl (rab rfl) ?_
   refine k_nc ?_
   refine k_ret ?_
   refine b_ret ?_
   refine c_ret ?_
   refine c_ret ?_
   refine b_ret ?_
   refine c_ret ?_
   refine fin1r (v := .bool _) rfl rfl ?_
   exact ⟨rfl, H.only⟩
 ·obtain rfl : i = g.n := by omega
  obtain ⟨f, rfl⟩ := live4 f1 f3 f13 f14
  clear f1 f3 f12 f13 f14
  refine k_sg ?_
  refine s_run rfl rfl (r_lssF rfl rfl (by omega)) ?_
  refine k_nc ?_
  refine k_seq ?_
  refine k_f rfl ?_
  refine k_exit ?_
  refine c_exit ?_
  refine c_exit ?_
  refine b_hit ?_
  refine c_norm ?_
  refine k_seq ?_
  refine k_sg ?_
  refine s_run rfl rfl (r_fa0 rfl fo25_1) ?_
  refine s_run rfl rfl (r_lo H 0 rfl rfl rfl ag23) ?_
  refine s_run rfl rfl (r_len rfl Try.underlying23) ?_
  refine s_run rfl rfl (rmi rfl) ?_
  refine k_nc ?_
  refine k_b ?_
  refine k_loop (fun z f W => ∃ i : Nat, i ≤ g.m ∧ z = g.m - i ∧ (∀ j x, j < i → g.ns[j]? = some x → okN g.m x) ∧ f 3 = .func (.func 59) #[] [ptr p1].toArray ∧ f 24 = .slice g.B g.m g.d ∧ f 25 = .int .i64 g.m ∧ f 26 = .int .i64 i ∧ Heap w [] [blk p1 [.slice g.A g.n g.c, .slice g.B g.m g.d] 25] W) g.m ⟨0, by omega, rfl, by omega, rfl, rfl, rfl, rfl, H⟩ ?_
  clear H
  rintro z f W ⟨i, hi, rfl, hall2, f3, f24, f25, f26, H⟩
  by_cases hlt : i < g.m
  ·obtain ⟨x, hx⟩ : ∃ x, g.ns[i]? = some x := ⟨_, List.getElem?_eq_getElem (by omega)⟩
   have hxm := List.mem_of_getElem? hx
   obtain ⟨b, o, hB, _, hrd⟩ := hg.ns.1 (by omega)
   have hrx := hrd i x hx
   have hxo := hg.ns.2 x hxm
   have hxn := hxo.nb
   have hxd := hxo.mb
   have hpl := hxo.pl
   rw [hB] at f24
   obtain ⟨f, rfl⟩ := live4 f3 f24 f25 f26
   clear f3 f24 f25 f26
   unfold NodeS.cells at hrx
   by_cases h63 : x.n ≤ 63
   ·by_cases hd : x.m ≤ 16384
    ·refine k_sg ?_
     refine s_run rfl rfl (r_lssT rfl rfl (by omega)) ?_
     refine k_nc ?_
     refine k_seq ?_
     refine k_t rfl ?_
     refine k_skip ?_
     refine c_norm ?_
     refine k_seq ?_
     refine k_b ?_
     refine k_sg ?_
     refine s_run rfl rfl (r_ix (i := i) rfl rfl (by omega) (by omega) Try.underlying23 sz39) ?_
     refine s_run rfl rfl (r_lA (enc := fun v : Value => v) (zs := [.slice x.A x.n x.c, .slice x.B x.m x.d]) (hrx.later H.only (by simp)) rfl rfl ag39 sz39) ?_
     refine s_al H rfl inf39 ?_
     intro p7 _ H'; clear H; have H := H'; clear H'
     refine s_sw H 0 rfl rfl rfl rfl rfl rfl rfl sz39 ?_
     clear H; intro _ H; simp only [jA, jB, jC, jD, jE, jF, jG, jH, jI, jJ, jK, Nat.reduceAdd] at H
     refine k_nc ?_
     refine k_seq ?_
     refine k_sg ?_
     refine s_run rfl rfl (r_fa0 rfl fo39_0) ?_
     refine s_run rfl rfl (r_lo H 0 rfl rfl rfl ag22) ?_
     refine s_run rfl rfl (r_len rfl Try.underlying22) ?_
     refine s_run rfl rfl (r_gtrF rfl rfl (by omega)) ?_
     refine s_run rfl rfl (rmb rfl) ?_
     refine s_run rfl (g_on 34 (by kernel_rfl) rfl) (r_fa0 rfl fo39_1) ?_
     refine s_run rfl (g_on 34 (by kernel_rfl) rfl) (r_lo H 0 rfl rfl rfl ag37) ?_
     refine s_run rfl (g_on 34 (by kernel_rfl) rfl) (r_len rfl Try.underlying37) ?_
     refine s_run rfl (g_on 34 (by kernel_rfl) rfl) (r_gtrF rfl rfl (by omega)) ?_
     refine s_run rfl rfl (r_pkF (v := .bool _) rfl rfl) ?_
     refine k_nc ?_
     refine k_f rfl ?_
     refine k_skip ?_
     refine c_norm ?_
     refine k_sg ?_
     refine s_run rfl rfl (r_fa0 rfl fo39_0) ?_
     refine s_run rfl rfl (r_lo H 0 rfl rfl rfl ag22) ?_
     refine s_run rfl rfl (r_len rfl Try.underlying22) ?_
     refine s_run rfl rfl (rmi rfl) ?_
     refine k_nc ?_
     refine k_b ?_
     have H := H.drop
     refine k_loop (fun z f W => ∃ k : Nat, k ≤ x.n ∧ z = x.n - k ∧ (∀ j p, j < k → x.ps[j]? = some p → okP g.m p) ∧ f 3 = .func (.func 59) #[] [ptr p1].toArray ∧ f 24 = .slice (some ⟨b, o, none⟩) g.m g.d ∧ f 25 = .int .i64 g.m ∧ f 26 = .int .i64 i ∧ f 41 = .slice x.A x.n x.c ∧ f 42 = .int .i64 x.n ∧ f 43 = .int .i64 k ∧ Heap w [] [blk p1 [.slice g.A g.n g.c, .slice g.B g.m g.d] 25] W) x.n ⟨0, by omega, rfl, by omega, rfl, rfl, rfl, rfl, rfl, rfl, rfl, H⟩ ?_
     clear H
     rintro z f W ⟨k, hk, rfl, hall3, f3, f24, f25, f26, f41, f42, f43, H⟩
     by_cases hkl : k < x.n
     ·obtain ⟨q, hq⟩ : ∃ q, x.ps[k]? = some q := ⟨_, List.getElem?_eq_getElem (by omega)⟩
      obtain ⟨b2, o2, hA2, _, hrd2⟩ := hxo.ps (by omega)
      have hcell := hrd2 k q hq
      rw [hA2] at f41
      obtain ⟨f, rfl⟩ := lv7 f3 f24 f25 f26 f41 f42 f43
      clear f3 f24 f25 f26 f41 f42 f43
      have hIr := hI p1 q
      by_cases hok : okP g.m q
      ·rw [decide_eq_true hok] at hIr
       refine k_sg ?_
       refine s_run rfl rfl (r_lssT rfl rfl (by omega)) ?_
       refine k_nc ?_
       refine k_seq ?_
       refine k_t rfl ?_
       refine k_skip ?_
       refine c_norm ?_
       refine k_seq ?_
       refine k_b ?_
       refine k_sg ?_
       refine s_run rfl rfl (r_ix1o (i := k) rfl rfl (by omega) (by omega) Try.underlying22 sz3) ?_
       refine s_run rfl rfl (r_lr H rfl hcell (by simp) ag3) ?_
       refine s_run rfl rfl (rai rfl) ?_
       refine k_nc ?_
       refine k_sg ?_
       refine s_run rfl rfl (r_mv (v := .func _ _ _) rfl) ?_
       refine s_run rfl rfl (rmi rfl) ?_
       refine s_callV rfl rfl rfl Try.func59 (by kernel_rfl) (by kernel_rfl) (hIr _ (H.one 0 rfl)) ?_
       rintro e W1 ⟨rfl, H'⟩
       refine ⟨_, rfl, ?_⟩
       have H := H.same H'; clear H'
       refine s_run rfl rfl (r_notT rfl) ?_
       refine k_nc ?_
       refine k_f rfl ?_
       refine k_skip ?_
       refine b_norm ?_
       refine c_norm ?_
       refine k_rg ?_
       refine s_run rfl rfl (r_add rfl rfl (wI (by omega))) ?_
       refine s_run rfl rfl (rmi rfl) ?_
       refine k_nil ?_
       refine c_round ?_
       refine ⟨_, _, ?_, rfl, k + 1, by omega, rfl, fun j p hj hp => ?_, rfl, rfl, rfl, rfl, by rw [hA2]; rfl, rfl, rfl, H⟩
       ·omega
       ·by_cases e : j = k
        ·subst e; rw [hq] at hp; injection hp with hp; subst hp; exact hok
        ·exact hall3 j p (by omega) hp
      ·rw [decide_eq_false hok] at hIr
       rw [hbad2 x hxm (fun h => hok (h.2.2 q (List.mem_of_getElem? hq)))]
       refine k_sg ?_
       refine s_run rfl rfl (r_lssT rfl rfl (by omega)) ?_
       refine k_nc ?_
       refine k_seq ?_
       refine k_t rfl ?_
       refine k_skip ?_
       refine c_norm ?_
       refine k_seq ?_
       refine k_b ?_
       refine k_sg ?_
       refine s_run rfl rfl (r_ix1o (i := k) rfl rfl (by omega) (by omega) Try.underlying22 sz3) ?_
       refine s_run rfl rfl (r_lr H rfl hcell (by simp) ag3) ?_
       refine s_run rfl rfl (rai rfl) ?_
       refine k_nc ?_
       refine k_sg ?_
       refine s_run rfl rfl (r_mv (v := .func _ _ _) rfl) ?_
       refine s_run rfl rfl (rmi rfl) ?_
       refine s_callV rfl rfl rfl Try.func59 (by kernel_rfl) (by kernel_rfl) (hIr _ (H.one 0 rfl)) ?_
       rintro e W1 ⟨rfl, H'⟩
       refine ⟨_, rfl, ?_⟩
       have H := H.same H'; clear H'
       refine s_run rfl rfl (r_notF rfl) ?_
       refine k_nc ?_
       refine k_t rfl ?_
       refine k_sg ?_
       refine s_run rfl rfl (rab rfl) ?_
       refine k_nc ?_
       refine k_ret ?_
       refine b_ret ?_
       refine c_ret ?_
       refine c_ret ?_
       refine b_ret ?_
       refine b_ret ?_
       refine c_ret ?_
       refine c_ret ?_
       refine b_ret ?_
       refine c_ret ?_
       refine fin1r (v := .bool _) rfl rfl ?_
       exact ⟨rfl, H.only⟩
     ·obtain rfl : k = x.n := by omega
      obtain ⟨f, rfl⟩ := lv7 f3 f24 f25 f26 f41 f42 f43
      clear f3 f24 f25 f26 f41 f42 f43
      refine k_sg ?_
      refine s_run rfl rfl (r_lssF rfl rfl (by omega)) ?_
      refine k_nc ?_
      refine k_seq ?_
      refine k_f rfl ?_
      refine k_exit ?_
      refine c_exit ?_
      refine c_exit ?_
      refine b_hit ?_
      refine b_norm ?_
      refine c_norm ?_
      refine k_rg ?_
      refine s_run rfl rfl (r_add rfl rfl (wI (by omega))) ?_
      refine s_run rfl rfl (rmi rfl) ?_
      refine k_nil ?_
      refine c_round ?_
      refine ⟨_, _, ?_, rfl, i + 1, by omega, rfl, fun j y hj hy => ?_, rfl, by rw [hB]; rfl, rfl, rfl, H⟩
      ·omega
      ·by_cases e : j = i
       ·subst e; rw [hx] at hy; injection hy with hy; subst hy
        refine ⟨h63, hd, fun p hp => ?_⟩
        obtain ⟨j, hj, rfl⟩ := List.mem_iff_getElem.1 hp
        exact hall3 j _ (by omega) (List.getElem?_eq_getElem hj)
       ·exact hall2 j y (by omega) hy
    ·rw [hbad2 x hxm (fun h => hd h.2.1)]
     refine k_sg ?_
     refine s_run rfl rfl (r_lssT rfl rfl (by omega)) ?_
     refine k_nc ?_
     refine k_seq ?_
     refine k_t rfl ?_
     refine k_skip ?_
     refine c_norm ?_
     refine k_seq ?_
     refine k_b ?_
     refine k_sg ?_
     refine s_run rfl rfl (r_ix (i := i) rfl rfl (by omega) (by omega) Try.underlying23 sz39) ?_
     refine s_run rfl rfl (r_lA (enc := fun v : Value => v) (zs := [.slice x.A x.n x.c, .slice x.B x.m x.d]) (hrx.later H.only (by simp)) rfl rfl ag39 sz39) ?_
     refine s_al H rfl inf39 ?_
     intro p7 _ H'; clear H; have H := H'; clear H'
     refine s_sw H 0 rfl rfl rfl rfl rfl rfl rfl sz39 ?_
     clear H; intro _ H; simp only [jA, jB, jC, jD, jE, jF, jG, jH, jI, jJ, jK, Nat.reduceAdd] at H
     refine k_nc ?_
     refine k_seq ?_
     refine k_sg ?_
     refine s_run rfl rfl (r_fa0 rfl fo39_0) ?_
     refine s_run rfl rfl (r_lo H 0 rfl rfl rfl ag22) ?_
     refine s_run rfl rfl (r_len rfl Try.underlying22) ?_
     refine s_run rfl rfl (r_gtrF rfl rfl (by omega)) ?_
     refine s_run rfl rfl (rmb rfl) ?_
     refine s_run rfl (g_on 34 (by kernel_rfl) rfl) (r_fa0 rfl fo39_1) ?_
     refine s_run rfl (g_on 34 (by kernel_rfl) rfl) (r_lo H 0 rfl rfl rfl ag37) ?_
     refine s_run rfl (g_on 34 (by kernel_rfl) rfl) (r_len rfl Try.underlying37) ?_
     refine s_run rfl (g_on 34 (by kernel_rfl) rfl) (r_gtrT rfl rfl (by omega)) ?_
     refine s_run rfl rfl (r_pkF (v := .bool _) rfl rfl) ?_
     refine k_nc ?_
     refine k_t rfl ?_
     refine k_sg ?_
     refine s_run rfl rfl (rab rfl) ?_
     refine k_nc ?_
     refine k_ret ?_
     refine c_ret ?_
     refine b_ret ?_
     refine c_ret ?_
     refine c_ret ?_
     refine b_ret ?_
     refine c_ret ?_
     refine fin1r (v := .bool _) rfl rfl ?_
     exact ⟨rfl, H.only⟩
   ·rw [hbad2 x hxm (fun h => h63 h.1)]
    refine k_sg ?_
    refine s_run rfl rfl (r_lssT rfl rfl (by omega)) ?_
    refine k_nc ?_
    refine k_seq ?_
    refine k_t rfl ?_
    refine k_skip ?_
    refine c_norm ?_
    refine k_seq ?_
    refine k_b ?_
    refine k_sg ?_
    refine s_run rfl rfl (r_ix (i := i) rfl rfl (by omega) (by omega) Try.underlying23 sz39) ?_
    refine s_run rfl rfl (r_lA (enc := fun v : Value => v) (zs := [.slice x.A x.n x.c, .slice x.B x.m x.d]) (hrx.later H.only (by simp)) rfl rfl ag39 sz39) ?_
    refine s_al H rfl inf39 ?_
    intro p7 _ H'; clear H; have H := H'; clear H'
    refine s_sw H 0 rfl rfl rfl rfl rfl rfl rfl sz39 ?_
    clear H; intro _ H; simp only [jA, jB, jC, jD, jE, jF, jG, jH, jI, jJ, jK, Nat.reduceAdd] at H
    refine k_nc ?_
    refine k_seq ?_
    refine k_sg ?_
    refine s_run rfl rfl (r_fa0 rfl fo39_0) ?_
    refine s_run rfl rfl (r_lo H 0 rfl rfl rfl ag22) ?_
    refine s_run rfl rfl (r_len rfl Try.underlying22) ?_
    refine s_run rfl rfl (r_gtrT rfl rfl (by omega)) ?_
    refine s_run rfl rfl (rmb rfl) ?_
    refine s_off rfl (g_off 34 (by kernel_rfl) rfl rfl) ?_
    refine s_off rfl (g_off 34 (by kernel_rfl) rfl rfl) ?_
    refine s_off rfl (g_off 34 (by kernel_rfl) rfl rfl) ?_
    refine s_off rfl (g_off 34 (by kernel_rfl) rfl rfl) ?_
    refine s_run rfl rfl (r_pkT (v := .bool _) rfl rfl) ?_
    refine k_nc ?_
    refine k_t rfl ?_
    refine k_sg ?_
    refine s_run rfl rfl (rab rfl) ?_
    refine k_nc ?_
    refine k_ret ?_
    refine c_ret ?_
    refine b_ret ?_
    refine c_ret ?_
    refine c_ret ?_
    refine b_ret ?_
    refine c_ret ?_
    refine fin1r (v := .bool _) rfl rfl ?_
    exact ⟨rfl, H.only⟩
  ·obtain rfl : i = g.m := by omega
   rw [hgood hall hall2]
   obtain ⟨f, rfl⟩ := live4 f3 f24 f25 f26
   clear f3 f24 f25 f26
   refine k_sg ?_
   refine s_run rfl rfl (r_lssF rfl rfl (by omega)) ?_
   refine k_nc ?_
   refine k_seq ?_
   refine k_f rfl ?_
   refine k_exit ?_
   refine c_exit ?_
   refine c_exit ?_
   refine b_hit ?_
   refine c_norm ?_
   refine k_sg ?_
   refine s_run rfl rfl (rab rfl) ?_
   refine k_nc ?_
   refine k_ret ?_
   refine fin1r (v := .bool _) rfl rfl ?_
   exact ⟨rfl, H.only⟩
end Go.Proofs.Ytdgmlfpikgjnlaa
end

section
namespace Go.Proofs.Ytdgmlfpikgjnlaa
open Go.RowKit
section
variable {P : Program} {n : Sz} {f : Nat → Value} {W w0 : World} {F : List Nat} {L : List Ent} {dst : Option Tmp} {ty : TypeId} {pos : String} {af : Array Edge} {g : Option (Nat × Bool)} {x : Operand} {t : TypeId}
theorem Heap.own_some {α : Type} {enc : α → Value} {size : Nat} {A : Option Addr} {m c : Nat} {xs : List α} {T : TypeId} (H : Heap w0 F L W) (j : Nat) (hj : L[j]? = some (ownN size (.slice A m c) m (xs.map enc) T)) (h0 : m ≠ 0) : ∃ p, A = some ⟨p, 0, none⟩ := by
 rcases (H.own_get j hj).2 with ⟨h1, h2⟩ | ⟨g, cap, cur, h1, _⟩
 ·exact absurd h2 h0
 ·injection h1 with h1 _ _; exact ⟨g, h1⟩
/-- a cell of a row of one's own -/
theorem r_ow {α : Type} {enc : α → Value} {p i m c : Nat} {xs : List α} {T : TypeId} {z : α} (H : Heap w0 F L W) (j : Nat) (hx : ev n f x = .pointer (some ⟨p, i, none⟩)) (hj : L[j]? = some (ownN 1 (.slice (some ⟨p, 0, none⟩) m c) m (xs.map enc) T)) (hv : xs[i]? = some z)
  (hagg : ∀ W, (isAgg t).run P W = .ok false W) : (execOp (ev n f) ⟨dst, .load t x, ty, pos, af, g⟩).run P W = .ok (.value (enc z)) W := by
 have ho := H.own_get j hj
 have hi : i < xs.length := (List.getElem?_eq_some_iff.1 hv).1
 have hcell := ho.cellAt i (by rw [← ho.1]; simpa using hi)
 rw [List.getElem?_map, hv] at hcell
 exact r_lc hcell hx hagg
theorem Heap.own_seesN {α : Type} {enc : α → Value} {size : Nat} (H : Heap w0 F L W) (j : Nat) {A : Option Addr} {n c : Nat} {xs : List α} {T : TypeId} (hj : L[j]? = some (ownN size (.slice A n c) n (xs.map enc) T)) : xs.length ≠ 0 → ∃ b, A = some ⟨b, 0, none⟩ ∧ b ∈ (ownN size (.slice A n c) n (xs.map enc) T).ids ∧ Reads enc W b 0 xs := by
 have ho := H.own_get j hj
 intro h0
 have hn : xs.length = n * size := by simpa using ho.1
 rcases ho.2 with ⟨h1, h2⟩ | ⟨g, cap, cur, h1, _, hg, h3, _, h5, h6⟩
 ·rw [h2, Nat.zero_mul] at hn; omega
 ·injection h1 with h1 _ _
  subst h1
  refine ⟨g, rfl, by simp [ownN, Value.ownBlock], fun i z hz => ?_⟩
  rw [Nat.zero_add, Joins.cell_of_block hg]
  have : (cur.toList.take (n * size))[i]? = some (enc z) := by rw [h6, List.getElem?_map, hz]; rfl
  rw [List.getElem?_take] at this
  split at this
  ·simpa using this
  ·cases this
end
section
variable {P : Program} {ops : Array Oper} {rest : List Oper} {n : Sz} {k k2 : Nat} {f : Nat → Value} {W w0 : World} {F : List Nat} {L : List Ent} {Q : Exit → Act → World → Prop} {ty ty2 : TypeId} {pos pos2 : String} {af af2 : Array Edge} {g : Option (Nat × Bool)} {x y s : Operand} {v u : Value} {t e : TypeId}
/-- []T{x}, x of several cells -/
theorem s_bsN {α : Type} {enc : α → Value} {z0 : Value} {size bytes : Nat} {zs : List α} (H : Heap w0 F L W)
  (hw : Region.wanted ⟨some k, .buildSlice t 1 #[(0, x)], ty, pos, af, g⟩ (yl n f ops) = true) (hx : ev n f x = .agg (zs.map enc).toArray) (hzl : zs.length = size) (hsz : 0 < size ∧ size ≤ 1000)
  (hfill : Instr.fill (fun i => some (i * size, size)) ((Array.range size).map (z0.cells[· % z0.cells.size]!)) [(0, .agg (zs.map enc).toArray)] = some (zs.map enc).toArray)
  (ht : P.underlying t = some (.slice e)) (hi : Inf P e z0 size bytes)
  (h : ∀ p W', Heap w0 F (ownN size (.slice (some ⟨p, 0, none⟩) 1 1) 1 (zs.map enc) e :: L) W' → SL P ops Q rest n (upd f k (.slice (some ⟨p, 0, none⟩) 1 1)) W') : SL P ops Q (⟨some k, .buildSlice t 1 #[(0, x)], ty, pos, af, g⟩ :: rest) n f W := by
 obtain ⟨i, hi0, hz0, hisz, hby⟩ := hi.ex
 have hzs2 : (zs.map enc).length = size := by simpa using hzl
 have hbig : ¬ (1 * size > 2 ^ 24) := by omega
 have hne : ¬ (1 * size = 0) := by omega
 have r1 : (Instr.buildSlice t 1 #[(0, .agg (zs.map enc).toArray)]).run P W = .ok (.slice (some ⟨W.heap.size, 0, none⟩) 1 1) (W.alloc (.cells (zs.map enc).toArray e)) := by
  have hz1 : (zeroValue e).run P W = .ok z0 W := by simp [zeroValue, typeInfo, hi0, hz0]
  have hs1 : (Go.sizeOf e).run P W = .ok size W := by simp [Go.sizeOf, typeInfo, hi0, hisz]
  simp only [Instr.buildSlice, Sem.run_bind, run_underlying ht, Result.andThen_ok, hs1, hbig, if_false, hne, hz1, Sem.run_pure]
  rw [show (1 * size) = size from by omega, hfill]
  rfl
 refine s_run rfl hw (W' := W.alloc (.cells (zs.map enc).toArray e)) (v := .slice (some ⟨W.heap.size, 0, none⟩) 1 1) (by simp only [execOp, List.map_toArray, List.map_cons, List.map_nil, hx, Sem.run_bind, r1, Result.andThen_ok]; rfl) (h _ _ ?_)
 refine H.more (A := [ownN size (.slice (some ⟨W.heap.size, 0, none⟩) 1 1) 1 (zs.map enc) e]) ⟨?_, by simp [ids, ownN, Value.ownBlock], by simp [ids, ownN, Value.ownBlock], Only.of_below ((Below.refl _ _).alloc (Nat.le_refl _) _) _⟩
 intro E hE; rw [List.mem_singleton.1 hE]
 have hzl2 : (zs.map enc).length = 1 * size := by rw [hzs2, Nat.one_mul]
 exact ⟨hzl2, .inr ⟨_, 1, _, rfl, Nat.zero_le _, heap_alloc_new W _, Nat.le_refl _, by decide, by simpa using hzl2, List.take_of_length_le (Nat.le_of_eq hzl2)⟩⟩
/-- []T{x, y, ..} of values of several cells -/
theorem s_bsM {α : Type} {enc : α → Value} {z0 : Value} {size bytes m : Nat} {zs : List α} {parts : Array (Nat × Operand)} {vs : List (Nat × Value)} (H : Heap w0 F L W)
  (hw : Region.wanted ⟨some k, .buildSlice t m parts, ty, pos, af, g⟩ (yl n f ops) = true) (hv : parts.toList.map (fun p => (p.1, ev n f p.2)) = vs) (hzl : zs.length = m * size) (hsz : 0 < size ∧ 0 < m ∧ m * size ≤ 1000) (hm : m ≤ 1000)
  (hfill : Instr.fill (fun i => some (i * size, size)) ((Array.range (m * size)).map (z0.cells[· % z0.cells.size]!)) vs = some (zs.map enc).toArray)
  (ht : P.underlying t = some (.slice e)) (hi : Inf P e z0 size bytes)
  (h : ∀ p W', Heap w0 F (ownN size (.slice (some ⟨p, 0, none⟩) m m) m (zs.map enc) e :: L) W' → SL P ops Q rest n (upd f k (.slice (some ⟨p, 0, none⟩) m m)) W') : SL P ops Q (⟨some k, .buildSlice t m parts, ty, pos, af, g⟩ :: rest) n f W := by
 obtain ⟨i, hi0, hz0, hisz, hby⟩ := hi.ex
 have hzs2 : (zs.map enc).length = m * size := by simpa using hzl
 have hbig : ¬ (m * size > 2 ^ 24) := by omega
 have hne : ¬ (m * size = 0) := by have := Nat.mul_pos hsz.2.1 hsz.1; omega
 have r1 : (Instr.buildSlice t m vs.toArray).run P W = .ok (.slice (some ⟨W.heap.size, 0, none⟩) m m) (W.alloc (.cells (zs.map enc).toArray e)) := by
  have hz1 : (zeroValue e).run P W = .ok z0 W := by simp [zeroValue, typeInfo, hi0, hz0]
  have hs1 : (Go.sizeOf e).run P W = .ok size W := by simp [Go.sizeOf, typeInfo, hi0, hisz]
  simp only [Instr.buildSlice, Sem.run_bind, run_underlying ht, Result.andThen_ok, hs1, hbig, if_false, hne, hz1, Sem.run_pure]
  simp only [hfill]
  rfl
 have r2 : (execOp (ev n f) ⟨some k, .buildSlice t m parts, ty, pos, af, g⟩).run P W = .ok (.value (.slice (some ⟨W.heap.size, 0, none⟩) m m)) (W.alloc (.cells (zs.map enc).toArray e)) := by
  have hp : parts.map (fun p => (p.1, ev n f p.2)) = vs.toArray := by
   apply Array.toList_inj.1
   rw [Array.toList_map, hv]
  simp only [execOp, hp, Sem.run_bind, r1, Result.andThen_ok]; rfl
 refine s_run rfl hw r2 (h _ _ ?_)
 refine H.more (A := [ownN size (.slice (some ⟨W.heap.size, 0, none⟩) m m) m (zs.map enc) e]) ⟨?_, by simp [ids, ownN, Value.ownBlock], by simp [ids, ownN, Value.ownBlock], Only.of_below ((Below.refl _ _).alloc (Nat.le_refl _) _) _⟩
 intro E hE; rw [List.mem_singleton.1 hE]
 exact ⟨hzs2, .inr ⟨_, m, _, rfl, Nat.zero_le _, heap_alloc_new W _, Nat.le_refl _, by unfold maxLen; omega, by simpa using hzs2, List.take_of_length_le (Nat.le_of_eq hzs2)⟩⟩
/-- what was built is appended -/
theorem s_apB {α : Type} {enc : α → Value} {z0 : Value} {size bytes m l cB : Nat} {B : Option Addr} {xs zs : List α} {T : TypeId} (H : Heap w0 F (ownN size (.slice B l cB) l (zs.map enc) T :: L) W) (j : Nat) (hj : L[j]? = some (ownN size v m (xs.map enc) e))
  (hw : Region.wanted ⟨some k, .call ⟨.builtin .append, #[s, y], #[t, t]⟩, ty, pos, af, g⟩ (yl n f ops) = true) (hs : ev n f s = v) (hy : ev n f y = .slice B l cB) (h1 : ∀ z, (enc z).oneCell' = true) (hsz : 0 < size)
  (hm : m + l ≤ 100000000000 ∧ (m + l) * bytes ≤ 140737488355328) (ht : P.underlying t = some (.slice e)) (hi : Inf P e z0 size bytes) (hz0 : z0.cells.size = size)
  (h : ∀ A' c' W', Heap w0 F (L.set j (ownN size (.slice A' (m + l) c') (m + l) ((xs ++ zs).map enc) e)) W' → SL P ops Q rest n (upd f k (.slice A' (m + l) c')) W') :
  SL P ops Q (⟨some k, .call ⟨.builtin .append, #[s, y], #[t, t]⟩, ty, pos, af, g⟩ :: rest) n f W := by
 have hlen : zs.length = l * size := by have := (H.own_get 0 rfl).1; simpa using this
 have hnd := H.nd
 rw [ids_cons] at hnd
 have H0 := H.drop
 refine s_apsN (enc := enc) (zs := zs) (xs := xs) (Heap.start H0.ents) j hj hw hs hy (fun h0 => ?_) hlen h1 hsz hm ht hi hz0 ?_
 ·obtain ⟨b, e1, hb, hr⟩ := H.own_seesN 0 rfl h0
  exact ⟨b, 0, e1, fun hm => (List.nodup_append.1 hnd).2.2 b hb b hm rfl, hr⟩
 ·intro A' c' W' H'
  exact h A' c' W' (H0.whole H')
end
/-- some of the entries -/
theorem Heap.subl {w0 W : World} {F : List Nat} {L A : List Ent} (H : Heap w0 F L W) (p : List Nat) (hp : (p ++ (List.range L.length).filter (fun i => !p.contains i)).isPerm (List.range L.length) = true) (hA : p.filterMap (fun i => L[i]?) = A) : Heap w0 F A W := by
 have h := H.order (p ++ (List.range L.length).filter (fun i => !p.contains i)) hp rfl
 rw [List.filterMap_append, hA] at h
 exact h.drops
theorem k_trS {P : Program} {l : List Oper} {Q : Exit → Act → World → Prop} {n : Sz} {id : Nat} {f : Nat → Value} {W w0 : World} {F : List Nat} {L A : List Ent} (hm : P.follows .mixedOrders = true) (H : Heap w0 F L W) (p : List Nat) (hA : p.filterMap (fun i => L[i]?) = A) (h : TR P l.toArray Q (fun W' => Heap w0 F A W') l.length (Array.replicate l.length false) n f W.drew) : CW P (Code.region id l.toArray true) Q n f W :=
 .alone rfl (wp_region_held hm h.out)
end Go.Proofs.Ytdgmlfpikgjnlaa
end

section
namespace Go.Proofs.Ytdgmlfpikgjnlaa
open Go.RowKit
set_option maxRecDepth 100000
set_option maxHeartbeats 1000000
/-- small enough -/
structure Sm (g : GrS) : Prop where
 n : g.n ≤ 1000
 m : g.m ≤ 1000
 p : ∀ x ∈ g.ns, x.n ≤ 1000 ∧ x.m ≤ 100000
def SeenOk (m : Nat) (seen : List Bool) (out : List Int) : Prop := seen.length = m ∧ out.Nodup ∧ (∀ x ∈ out, 0 ≤ x ∧ x < (m : Int)) ∧ ∀ i : Nat, i < m → (seen.getD i true = true ↔ (i : Int) ∈ out)
theorem SeenOk.len {m : Nat} {seen : List Bool} {out : List Int} (h : SeenOk m seen out) : out.length ≤ m := Gr.nodup_len m out h.2.1 h.2.2.1
theorem SeenOk.zero (m : Nat) : SeenOk m (List.replicate m false) [] := ⟨by simp, by simp, by simp, fun i hi => by
 rw [List.getD, List.getElem?_replicate, if_pos hi]; simp⟩
theorem SeenOk.come {m : Nat} {seen : List Bool} {out : List Int} (h : SeenOk m seen out) (c : Int) (hc : c < (m : Int)) :
  (if 0 ≤ c ∧ seen.getD c.toNat true = false then out ++ [c] else out) = Gr.come out c ∧ SeenOk m (if 0 ≤ c then seen.set c.toNat true else seen) (Gr.come out c) := by
 obtain ⟨h1, h2, h3, h4⟩ := h
 unfold Gr.come
 by_cases h0 : 0 ≤ c
 ·obtain ⟨i, rfl⟩ := Int.eq_ofNat_of_zero_le h0
  have hi : i < m := by omega
  have h5 := h4 i hi
  rw [Int.toNat_natCast, if_pos h0]
  have hset : ∀ j : Nat, j < m → ((seen.set i true).getD j true = true ↔ (j = i ∨ seen.getD j true = true)) := by
   intro j hj
   rw [List.getD, List.getElem?_set]
   by_cases e : i = j
   ·subst e; rw [if_pos rfl, if_pos (by omega)]; simp
   ·rw [if_neg e]
    have : ¬ j = i := fun h => e h.symm
    simp [this, List.getD]
  cases hs : seen.getD i true with
  | true =>
   have hm := h5.1 hs
   rw [if_neg (by simp), if_pos (.inr hm)]
   refine ⟨rfl, by simpa using h1, h2, h3, fun j hj => ?_⟩
   rw [hset j hj, h4 j hj]
   constructor
   ·rintro (rfl | h)
    ·exact hm
    ·exact h
   ·exact .inr
  | false =>
   have hm : ¬ (i : Int) ∈ out := fun h => by rw [h5.2 h] at hs; cases hs
   rw [if_pos ⟨h0, rfl⟩, if_neg (by rintro (h | h); omega; exact hm h)]
   refine ⟨rfl, by simpa using h1, ?_, ?_, fun j hj => ?_⟩
   ·refine List.nodup_append.2 ⟨h2, by simp, fun a ha b hb e => ?_⟩
    obtain rfl := List.mem_singleton.1 hb
    exact hm (e ▸ ha)
   ·intro x hx
    rcases List.mem_append.1 hx with hx | hx
    ·exact h3 x hx
    ·rw [List.mem_singleton.1 hx]; omega
   ·rw [hset j hj, h4 j hj, List.mem_append, List.mem_singleton]
    constructor
    ·rintro (rfl | h)
     ·exact .inr rfl
     ·exact .inl h
    ·rintro (h | h)
     ·exact .inr h
     ·exact .inl (by omega)
 ·rw [if_neg (fun h => h0 h.1), if_neg h0, if_pos (.inl (by omega))]
  exact ⟨rfl, h1, h2, h3, h4⟩
theorem foldl_snoc {α β : Type} (f : β → α → β) (b : β) (xs : List α) (i : Nat) (x : α) (h : xs[i]? = some x) : (xs.take (i + 1)).foldl f b = f ((xs.take i).foldl f b) x := by
 rw [List.take_add_one, h, List.foldl_append]; rfl
theorem come_foldl_len : ∀ (xs out : List Int), out.length ≤ (xs.foldl Gr.come out).length
 | [], _ => Nat.le_refl _
 | x :: xs, out => Nat.le_trans (Gr.come_len out x) (come_foldl_len xs (Gr.come out x))
theorem right_roots {g : GrS} (h : rightB g = true) : ∀ r ∈ g.rs, okP g.m r := (of_decide_eq_true h).1
theorem right_ptrs {g : GrS} (h : rightB g = true) : ∀ x ∈ g.ns, ∀ p ∈ x.ps, okP g.m p := fun x hx => ((of_decide_eq_true h).2 x hx).2.2
theorem nodes_at {g : GrS} {i : Nat} {x : NodeS} (h : g.ns[i]? = some x) : Gr.ptr g.nodes (i : Int) = x.ps ∧ Gr.dat g.nodes (i : Int) = x.ds := by
 rw [Gr.ptr_at, Gr.dat_at]
 unfold GrS.nodes
 rw [List.getD, List.getElem?_map, h]; exact ⟨rfl, rfl⟩
theorem gOrder (g : GrS) (w : World) (hg : GrOk w [] g) (hr : rightB g = true) (hs : Sm g) :
  Calls Try.prog 56 [.agg g.cells.toArray].toArray w fun e w' => ∃ A c out, e = .returned (.slice A out.length c) ∧ Gr.IsOrd (Gr.ptr g.nodes) g.rs out ∧ Heap w [] [ownN 1 (.slice A out.length c) out.length (out.map (Value.int .i64)) 3] w' := by
 have H := Heap.nil w
 have hrs := hg.rs
 have hrl := hg.rl
 have hnl := hg.nl
 have hn := hs.n
 have hm := hs.m
 have hz := SeenOk.zero g.m
 have hC := fun c {p1 p2 bs A k seen out} {W : World} hE hl hc ho => gCome c p1 p2 bs g.m A k seen out W hE hl hc hm ho
 unfold GrS.cells
 refine k_in (N := 52) Try.func56 rfl rfl rfl ?_
 refine k_sg ?_
 refine s_box H rfl rfl ?_
 intro p1 _ H'; clear H; have H := H'; clear H'
 refine s_run rfl rfl (ras rfl) ?_
 refine k_nc ?_
 refine k_sg ?_
 refine s_run rfl rfl (r_fa0 rfl fo25_1) ?_
 refine s_run rfl rfl (r_lo H 0 rfl rfl rfl ag23) ?_
 refine s_run rfl rfl (r_len rfl Try.underlying23) ?_
 refine s_mk Value.bool false (m := g.m) H rfl rfl rfl (by omega) (by omega) (by omega) Try.underlying60 inf4 rfl ?_
 intro bs _ H'; clear H; have H := H'; clear H'
 refine s_al1 H rfl inf60 rfl ?_
 intro p3 _ H'; clear H; have H := H'; clear H'
 refine s_st (u := .slice _ _ _) H 0 rfl rfl rfl rfl rfl rfl sz60 ?_
 clear H; intro _ H; simp only [jA, jB, jC, jD, jE, jF, jG, jH, jI, jJ, jK, Nat.reduceAdd] at H
 refine k_nc ?_
 refine k_sg ?_
 refine s_al1 H rfl inf22 rfl ?_
 intro p4 _ H'; clear H; have H := H'; clear H'
 refine k_nc ?_
 refine k_sg ?_
 refine s_run rfl rfl (r_mkf rfl) ?_
 refine s_run rfl rfl (r_as (v := .func _ _ _) rfl) ?_
 refine k_nc ?_
 refine k_seq ?_
 refine k_sg ?_
 refine s_run rfl rfl (r_fa0 rfl fo25_0) ?_
 refine s_run rfl rfl (r_lo H 3 rfl rfl rfl ag22) ?_
 refine s_run rfl rfl (r_len rfl Try.underlying22) ?_
 refine s_run rfl rfl (rmi rfl) ?_
 refine k_nc ?_
 refine k_b ?_
 replace H := H.own_nil 1 3
 replace H : Heap w [] (comeE p3 p4 bs g.m none 0 (List.replicate g.m false) [] ++ [blk p1 [.slice g.A g.n g.c, .slice g.B g.m g.d] 25]) _ := H.order [2, 3, 1, 0, 4] rfl rfl
 have key := hz
 generalize List.replicate g.m false = seen0 at *
 refine k_loop (fun z f W => ∃ (i : Nat) (A : Option Addr) (k : Nat) (seen : List Bool) (out : List Int), i ≤ g.n ∧ z = g.n - i ∧ out = (g.rs.take i).foldl Gr.come [] ∧ SeenOk g.m seen out ∧ f 1 = ptr p1 ∧ f 4 = ptr p4 ∧ f 5 = .func (.func 79) #[] [ptr p3, ptr p4].toArray ∧ f 17 = .slice g.A g.n g.c ∧ f 18 = .int .i64 g.n ∧ f 19 = .int .i64 i ∧ Heap w [] (comeE p3 p4 bs g.m A k seen out ++ [blk p1 [.slice g.A g.n g.c, .slice g.B g.m g.d] 25]) W) g.n ⟨0, none, 0, seen0, [], by omega, rfl, rfl, hz, rfl, rfl, rfl, rfl, rfl, rfl, H⟩ ?_
 clear H hz key
 rintro z f W ⟨i, A, k, seen, out, hi, rfl, hout, hso, f1, f4, f5, f17, f18, f19, H⟩
 have hlo := hso.len
 by_cases hlt : i < g.n
 ·obtain ⟨r, hrr⟩ : ∃ r, g.rs[i]? = some r := ⟨_, List.getElem?_eq_getElem (by omega)⟩
  obtain ⟨b, o, hA, _, hrd⟩ := hrs (by omega)
  have hcell := hrd i r hrr
  have hok := right_roots hr r (List.mem_of_getElem? hrr)
  obtain ⟨hcm, hso'⟩ := hso.come r hok.2
  rw [hA] at f17
  obtain ⟨f, rfl⟩ := live6 f1 f4 f5 f17 f18 f19
  clear f1 f4 f5 f17 f18 f19
  refine k_sg ?_
  refine s_run rfl rfl (r_lssT rfl rfl (by omega)) ?_
  refine k_nc ?_
  refine k_seq ?_
  refine k_t rfl ?_
  refine k_skip ?_
  refine c_norm ?_
  refine k_seq ?_
  refine k_b ?_
  refine k_sg ?_
  refine s_run rfl rfl (r_ix1o (i := i) rfl rfl (by omega) (by omega) Try.underlying22 sz3) ?_
  refine s_run rfl rfl (r_lr H rfl hcell (by simp) ag3) ?_
  refine s_run rfl rfl (rai rfl) ?_
  refine k_nc ?_
  refine k_rg ?_
  refine s_run rfl rfl (r_mv (v := .func _ _ _) rfl) ?_
  refine s_run rfl rfl (rmi rfl) ?_
  refine s_callV rfl rfl rfl Try.func79 (by kernel_rfl) (by kernel_rfl) (hC r (H.part (A := comeE p3 p4 bs g.m A k seen out)) hso.1 hok.2 (by omega)) ?_
  rintro e W1 ⟨rfl, A', k', H'⟩
  refine ⟨_, rfl, ?_⟩
  have H := H.step (A := comeE p3 p4 bs g.m A k seen out) (L := [_]) H' (fun _ h => h); clear H'
  refine k_nil ?_
  refine b_norm ?_
  refine c_norm ?_
  refine k_rg ?_
  refine s_run rfl rfl (r_add rfl rfl (wI (by omega))) ?_
  refine s_run rfl rfl (rmi rfl) ?_
  refine k_nil ?_
  refine c_round ?_
  rw [hcm] at H
  refine ⟨_, _, ?_, rfl, i + 1, A', k', _, _, by omega, rfl, by rw [foldl_snoc _ _ _ _ _ hrr, ← hout], hso', rfl, rfl, rfl, by rw [hA]; rfl, rfl, rfl, H⟩
  omega
 ·obtain rfl : i = g.n := by omega
  rw [← hrl, List.take_length] at hout
  obtain ⟨f, rfl⟩ := live5 f1 f4 f5 f18 f19
  clear f1 f4 f5 f17 f18 f19
  refine k_sg ?_
  refine s_run rfl rfl (r_lssF rfl rfl (by omega)) ?_
  refine k_nc ?_
  refine k_seq ?_
  refine k_f rfl ?_
  refine k_exit ?_
  refine c_exit ?_
  refine c_exit ?_
  refine b_hit ?_
  refine c_norm ?_
  refine k_seq ?_
  refine k_sg ?_
  refine s_run rfl rfl (rai rfl) ?_
  refine k_nc ?_
  refine k_b ?_
  refine k_loop (fun z f W => ∃ (i : Nat) (A : Option Addr) (k : Nat) (seen : List Bool) (out : List Int), i ≤ out.length ∧ z = g.m - i ∧ out = Gr.ord (Gr.ptr g.nodes) g.rs i ∧ SeenOk g.m seen out ∧ f 1 = ptr p1 ∧ f 4 = ptr p4 ∧ f 5 = .func (.func 79) #[] [ptr p3, ptr p4].toArray ∧ f 8 = .int .i64 i ∧ Heap w [] (comeE p3 p4 bs g.m A k seen out ++ [blk p1 [.slice g.A g.n g.c, .slice g.B g.m g.d] 25]) W) g.m ⟨0, A, k, seen, out, by omega, rfl, hout, hso, rfl, rfl, rfl, rfl, H⟩ ?_
  clear H hso hout hlo
  rintro z f W ⟨i, A, k, seen, out, hi, rfl, hout, hso, f1, f4, f5, f8, H⟩
  obtain ⟨f, rfl⟩ := live4 f1 f4 f5 f8
  clear f1 f4 f5 f8
  have hlo := hso.len
  unfold comeE at H
  by_cases hlt : i < out.length
  ·obtain ⟨y, hy⟩ : ∃ y, out[i]? = some y := ⟨_, List.getElem?_eq_getElem hlt⟩
   have hyb := hso.2.2.1 y (List.mem_of_getElem? hy)
   obtain ⟨x', rfl⟩ := Int.eq_ofNat_of_zero_le hyb.1
   obtain ⟨x, hx⟩ : ∃ x, g.ns[x']? = some x := ⟨_, List.getElem?_eq_getElem (by omega)⟩
   have hxm := List.mem_of_getElem? hx
   obtain ⟨b, o, hB, _, hrd⟩ := hg.ns.1 (by omega)
   have hc0 := hrd x' x hx 0 _ rfl
   have hxo := hg.ns.2 x hxm
   have hxn := (hs.p x hxm).1
   have hpl := hxo.pl
   obtain ⟨pa, rfl⟩ := H.own_some 3 rfl (by omega)
   rw [hB] at H
   refine k_seq ?_
   refine k_sg ?_
   refine s_run rfl rfl (rmi rfl) ?_
   refine s_run rfl rfl (r_lo H 2 rfl rfl rfl ag22) ?_
   refine s_run rfl rfl (r_len rfl Try.underlying22) ?_
   refine s_run rfl rfl (r_lssT rfl rfl (by omega)) ?_
   refine k_nc ?_
   refine k_t rfl ?_
   refine k_skip ?_
   refine c_norm ?_
   refine k_seq ?_
   refine k_b ?_
   refine k_seq ?_
   refine k_q mixed (by kernel_rfl) H ?_
   refine q_run rfl rfl (fun _ H => r_fa0 rfl fo25_1) ?_
   refine q_run rfl rfl (fun _ H => r_lo H 4 rfl rfl rfl ag23) ?_
   refine q_run rfl rfl (fun _ H => r_lo H 2 rfl rfl rfl ag22) ?_
   refine q_run rfl rfl (fun _ H => r_mv (v := .int _ _) rfl) ?_
   refine q_run rfl rfl (fun _ H => r_ix1 (i := i) rfl rfl (by omega) (by omega) Try.underlying22 sz3) ?_
   refine q_run rfl rfl (fun _ H => r_ow H 3 rfl rfl hy ag3) ?_
   refine q_run rfl rfl (fun _ H => r_ix (i := x') rfl rfl (by omega) (by omega) Try.underlying23 sz39) ?_
   refine q_run rfl rfl (fun _ H => r_fa rfl fo39_0) ?_
   refine q_run rfl rfl (fun _ H => r_lr H rfl hc0 (by simp) ag22) ?_
   refine q_run rfl rfl (fun _ H => r_len rfl Try.underlying22) ?_
   refine q_run rfl rfl (fun _ H => r_mv (v := .int _ _) rfl) ?_
   refine q_nil ?_
   intro _ H'; clear H; have H := H'; clear H'
   refine c_norm ?_
   refine k_b ?_
   rw [← hB] at H
   have hord : Gr.ord (Gr.ptr g.nodes) g.rs (i + 1) = x.ps.foldl Gr.come out := by
    rw [Gr.ord, ← hout, hy]
    show (Gr.ptr g.nodes (x' : Int)).foldl Gr.come out = _
    rw [(nodes_at hx).1]
   refine k_loop (fun z f W => ∃ (j : Nat) (A : Option Addr) (k : Nat) (seen : List Bool) (out' : List Int), j ≤ x.n ∧ z = x.n - j ∧ out' = (x.ps.take j).foldl Gr.come out ∧ SeenOk g.m seen out' ∧ f 1 = ptr p1 ∧ f 4 = ptr p4 ∧ f 5 = .func (.func 79) #[] [ptr p3, ptr p4].toArray ∧ f 8 = .int .i64 i ∧ f 41 = .slice x.A x.n x.c ∧ f 42 = .int .i64 x.n ∧ f 43 = .int .i64 j ∧ Heap w [] (comeE p3 p4 bs g.m A k seen out' ++ [blk p1 [.slice g.A g.n g.c, .slice g.B g.m g.d] 25]) W) x.n ⟨0, _, k, seen, out, by omega, rfl, rfl, hso, rfl, rfl, rfl, rfl, rfl, rfl, rfl, H⟩ ?_
   clear H
   rintro z f W ⟨j, A, k, seen, out', hj, rfl, hout', hso', f1, f4, f5, f8, f41, f42, f43, H⟩
   have hlo' := hso'.len
   by_cases hlj : j < x.n
   ·obtain ⟨q, hq⟩ : ∃ q, x.ps[j]? = some q := ⟨_, List.getElem?_eq_getElem (by omega)⟩
    obtain ⟨b2, o2, hA2, _, hrd2⟩ := hxo.ps (by omega)
    have hcell := hrd2 j q hq
    have hok := right_ptrs hr x hxm q (List.mem_of_getElem? hq)
    obtain ⟨hcm, hso2⟩ := hso'.come q hok.2
    rw [hA2] at f41
    obtain ⟨f, rfl⟩ := lv7 f1 f4 f5 f8 f41 f42 f43
    clear f1 f4 f5 f8 f41 f42 f43
    refine k_sg ?_
    refine s_run rfl rfl (r_lssT rfl rfl (by omega)) ?_
    refine k_nc ?_
    refine k_seq ?_
    refine k_t rfl ?_
    refine k_skip ?_
    refine c_norm ?_
    refine k_seq ?_
    refine k_b ?_
    refine k_sg ?_
    refine s_run rfl rfl (r_ix1o (i := j) rfl rfl (by omega) (by omega) Try.underlying22 sz3) ?_
    refine s_run rfl rfl (r_lr H rfl hcell (by simp) ag3) ?_
    refine s_run rfl rfl (rai rfl) ?_
    refine k_nc ?_
    refine k_rg ?_
    refine s_run rfl rfl (r_mv (v := .func _ _ _) rfl) ?_
    refine s_run rfl rfl (rmi rfl) ?_
    refine s_callV rfl rfl rfl Try.func79 (by kernel_rfl) (by kernel_rfl) (hC q (H.part (A := comeE p3 p4 bs g.m A k seen out')) hso'.1 hok.2 (by omega)) ?_
    rintro e W1 ⟨rfl, A', k', H'⟩
    refine ⟨_, rfl, ?_⟩
    have H := H.step (A := comeE p3 p4 bs g.m A k seen out') (L := [_]) H' (fun _ h => h); clear H'
    refine k_nil ?_
    refine b_norm ?_
    refine c_norm ?_
    refine k_rg ?_
    refine s_run rfl rfl (r_add rfl rfl (wI (by omega))) ?_
    refine s_run rfl rfl (rmi rfl) ?_
    refine k_nil ?_
    refine c_round ?_
    rw [hcm] at H
    refine ⟨_, _, ?_, rfl, j + 1, A', k', _, _, by omega, rfl, by rw [foldl_snoc _ _ _ _ _ hq, ← hout'], hso2, rfl, rfl, rfl, rfl, by rw [hA2]; rfl, rfl, rfl, H⟩
    omega
   ·obtain rfl : j = x.n := by omega
    rw [← hpl, List.take_length] at hout'
    have hll := come_foldl_len x.ps out
    obtain ⟨f, rfl⟩ := lv7 f1 f4 f5 f8 f41 f42 f43
    clear f1 f4 f5 f8 f41 f42 f43
    by_cases hgr : i + 1 ≤ out'.length
    ·refine k_sg ?_
     refine s_run rfl rfl (r_lssF rfl rfl (by omega)) ?_
     refine k_nc ?_
     refine k_seq ?_
     refine k_f rfl ?_
     refine k_exit ?_
     refine c_exit ?_
     refine c_exit ?_
     refine b_hit ?_
     refine b_norm ?_
     refine c_norm ?_
     refine k_rg ?_
     refine s_run rfl rfl (rmi rfl) ?_
     refine s_run rfl rfl (r_add rfl rfl (wI (by omega))) ?_
     refine s_run rfl rfl (rai rfl) ?_
     refine k_nil ?_
     refine c_round ?_
     refine ⟨_, _, ?_, rfl, i + 1, A, k, seen, out', hgr, rfl, by rw [hord]; exact hout', hso', rfl, rfl, rfl, rfl, H⟩
     omega
    ·exfalso
     rw [hout'] at hgr; omega
  ·have hio : i = out.length := by omega
   refine k_seq ?_
   refine k_sg ?_
   refine s_run rfl rfl (rmi rfl) ?_
   refine s_run rfl rfl (r_lo H 2 rfl rfl rfl ag22) ?_
   refine s_run rfl rfl (r_len rfl Try.underlying22) ?_
   refine s_run rfl rfl (r_lssF rfl rfl (by omega)) ?_
   refine k_nc ?_
   refine k_f rfl ?_
   refine k_exit ?_
   refine c_exit ?_
   refine c_exit ?_
   refine b_hit ?_
   refine c_norm ?_
   refine k_sg ?_
   refine s_run rfl rfl (r_lo H 2 rfl rfl rfl ag22) ?_
   refine s_run rfl rfl (ras rfl) ?_
   refine k_nc ?_
   refine k_ret ?_
   refine fin1r (v := .slice _ _ _) rfl rfl ?_
   refine ⟨A, k, out, rfl, ?_, (H.order [3, 0, 1, 2, 4] rfl rfl : Heap w [] ([_] ++ [_, _, _, _]) _).drops⟩
   have := Gr.ord_end (Gr.ptr g.nodes) g.rs i (by rw [← hout]; exact hio.symm)
   rw [← hout] at this
   exact this
end Go.Proofs.Ytdgmlfpikgjnlaa
end

section
namespace Go.Proofs.Ytdgmlfpikgjnlaa
open Go.RowKit
set_option maxRecDepth 100000
theorem gReached (g : GrS) (w : World) (hg : GrOk w [] g) (hs : Sm g) :
  Calls Try.prog 23 [.agg g.cells.toArray].toArray w fun e w' => (∃ r : Int, e = .returned (.int .i64 r) ∧ (rightB g = false → r = 0) ∧ (rightB g = true → ∃ out, Gr.IsOrd (Gr.ptr g.nodes) g.rs out ∧ r = out.length)) ∧ Only [] w w' := by
 have H := Heap.nil w
 have hR := fun W (h : Only [] w W) => gRight g W (hg.later h (by simp))
 unfold GrS.cells at *
 cases hb : rightB g with
 | true =>
  rw [hb] at hR
  have hO := fun W (h : Only [] w W) => gOrder g W (hg.later h (by simp)) hb hs
  unfold GrS.cells at hO
  refine k_in (N := 9) Try.func23 rfl rfl rfl ?_
  refine k_sg ?_
  refine s_box H rfl rfl ?_
  intro p1 _ H'; clear H; have H := H'; clear H'
  refine s_run rfl rfl (rai rfl) ?_
  refine k_nc ?_
  refine k_seq ?_
  refine k_sg ?_
  refine s_run rfl rfl (r_la H 0 rfl rfl rfl ag25 sz25) ?_
  refine s_call rfl (hR _ H.only) (ca29 rfl) ?_
  rintro e W1 ⟨rfl, H'⟩
  refine ⟨_, rfl, ?_⟩
  have H := H.same H'; clear H'
  refine s_run rfl rfl (r_notT rfl) ?_
  refine k_nc ?_
  refine k_f rfl ?_
  refine k_skip ?_
  refine c_norm ?_
  refine k_sg ?_
  refine s_run rfl rfl (r_la H 0 rfl rfl rfl ag25 sz25) ?_
  refine s_call rfl (hO _ H.only) (ca56 rfl) ?_
  rintro e W1 ⟨A, c, out, rfl, ho, H'⟩
  refine ⟨_, rfl, ?_⟩
  have H := H.more H'; clear H'
  refine s_run rfl rfl (r_len rfl Try.underlying22) ?_
  refine s_run rfl rfl (rai rfl) ?_
  refine k_nc ?_
  refine k_ret ?_
  refine fin1r (v := .int _ _) rfl rfl ?_
  exact ⟨⟨_, rfl, (fun h => by cases h), fun _ => ⟨out, ho, rfl⟩⟩, H.only⟩
 | false =>
  rw [hb] at hR
  refine k_in (N := 9) Try.func23 rfl rfl rfl ?_
  refine k_sg ?_
  refine s_box H rfl rfl ?_
  intro p1 _ H'; clear H; have H := H'; clear H'
  refine s_run rfl rfl (rai rfl) ?_
  refine k_nc ?_
  refine k_seq ?_
  refine k_sg ?_
  refine s_run rfl rfl (r_la H 0 rfl rfl rfl ag25 sz25) ?_
  refine s_call rfl (hR _ H.only) (ca29 rfl) ?_
  rintro e W1 ⟨rfl, H'⟩
  refine ⟨_, rfl, ?_⟩
  have H := H.same H'; clear H'
  refine s_run rfl rfl (r_notF rfl) ?_
  refine k_nc ?_
  refine k_t rfl ?_
  refine k_sg ?_
  refine s_run rfl rfl (rai rfl) ?_
  refine k_nc ?_
  refine k_ret ?_
  refine c_ret ?_
  refine fin1r (v := .int _ _) rfl rfl ?_
  exact ⟨⟨_, rfl, (fun _ => rfl), (fun h => by cases h)⟩, H.only⟩
theorem gCloneU (A : Option Addr) (n c : Nat) (xs : List Int) (w : World) (hS : Sees (Value.int .u64) w [] A xs) (hl : xs.length = n) (hn : n ≤ 100000) :
  Calls Try.prog 55 [.slice A n c].toArray w fun e w' => ∃ A' c', e = .returned (.slice A' n c') ∧ Heap w [] [ownN 1 (.slice A' n c') n (xs.map (Value.int .u64)) 78] w' := by
 have H := Heap.nil w
 cases A with
 | none =>
  have h0 : xs = [] := by
   refine List.eq_nil_of_length_eq_zero (Classical.byContradiction fun h => ?_)
   obtain ⟨b, o, e, _⟩ := hS h; cases e
  subst h0
  obtain rfl : n = 0 := hl.symm
  refine k_in (N := 8) Try.func55 rfl rfl rfl ?_
  refine k_sg ?_
  refine s_run rfl rfl (ras rfl) ?_
  refine k_nc ?_
  refine k_seq ?_
  refine k_sg ?_
  refine s_run rfl rfl (rms rfl) ?_
  refine s_run rfl rfl (r_slnilT rfl rfl Try.underlying37) ?_
  refine k_nc ?_
  refine k_t rfl ?_
  refine k_sg ?_
  refine s_run rfl rfl (ras rfl) ?_
  refine k_nc ?_
  refine k_ret ?_
  refine c_ret ?_
  refine fin1r (v := .slice _ _ _) rfl rfl ?_
  exact ⟨none, 0, rfl, H.own_nil 1 _⟩
 | some a =>
  refine k_in (N := 8) Try.func55 rfl rfl rfl ?_
  refine k_sg ?_
  refine s_run rfl rfl (ras rfl) ?_
  refine k_nc ?_
  refine k_seq ?_
  refine k_sg ?_
  refine s_run rfl rfl (rms rfl) ?_
  refine s_run rfl rfl (r_slnilF rfl rfl Try.underlying37) ?_
  refine k_nc ?_
  refine k_f rfl ?_
  refine k_skip ?_
  refine c_norm ?_
  refine k_sg ?_
  refine s_bs0 1 (by omega) H rfl Try.underlying37 inf78 ?_
  intro _ _ H'; clear H; have H := H'; clear H'
  refine s_run rfl rfl (rms rfl) ?_
  refine s_apps (enc := (Value.int .u64)) (xs := []) H 0 rfl rfl rfl rfl (hS) (hl) (fun _ => rfl) (by omega) Try.underlying37 inf78 rfl ?_
  intro A1 c1 W1 hA1 H'; simp only [List.set_cons_zero, List.set_cons_succ, List.take_succ_cons, List.take_zero, List.drop_succ_cons, List.drop_zero, List.cons_append, List.nil_append, List.append_nil, List.length_cons, List.length_nil, Nat.reduceAdd] at H'; clear H; have H := H'; clear H'
  refine s_run rfl rfl (ras rfl) ?_
  refine k_nc ?_
  refine k_ret ?_
  refine fin1r (v := .slice _ _ _) rfl rfl ?_
  rw [Nat.zero_add] at H
  exact ⟨A1, c1, by rw [Nat.zero_add], H⟩
theorem gTo (p nb m : Nat) (num : List Int) (x : Int) (w : World) (hE : Ents [blk p [.slice (some ⟨nb, 0, none⟩) m m] 22, vec (Value.int .i64) nb num 3] w) (hl : num.length = m) (hx : x < (m : Int)) :
  Calls Try.prog 58 [.int .i64 x, ptr p].toArray w fun e w' => e = .returned (.int .i64 (if x < 0 then -1 else num.getD x.toNat 0)) ∧ Only [] w w' := by
 have HR := Heap.start hE
 have H := Heap.nil w
 by_cases h0 : x < 0
 ·rw [if_pos h0]
  refine k_in (N := 10) Try.func58 rfl rfl rfl ?_
  refine k_sg ?_
  refine s_run rfl rfl (rai rfl) ?_
  refine k_nc ?_
  refine k_seq ?_
  refine k_sg ?_
  refine s_run rfl rfl (rmi rfl) ?_
  refine s_run rfl rfl (r_lssT rfl rfl (by omega)) ?_
  refine k_nc ?_
  refine k_t rfl ?_
  refine k_sg ?_
  refine s_run rfl rfl (rai rfl) ?_
  refine k_nc ?_
  refine k_ret ?_
  refine c_ret ?_
  refine fin1r (v := .int _ _) rfl rfl ?_
  exact ⟨rfl, H.only⟩
 ·rw [if_neg h0]
  obtain ⟨i, rfl⟩ := Int.eq_ofNat_of_zero_le (Int.not_lt.1 h0)
  have hget : num[i]? = some (num.getD i 0) := by rw [List.getD, List.getElem?_eq_getElem (by omega)]; rfl
  rw [Int.toNat_natCast]
  refine k_in (N := 10) Try.func58 rfl rfl rfl ?_
  refine k_sg ?_
  refine s_run rfl rfl (rai rfl) ?_
  refine k_nc ?_
  refine k_seq ?_
  refine k_sg ?_
  refine s_run rfl rfl (rmi rfl) ?_
  refine s_run rfl rfl (r_lssF rfl rfl (by omega)) ?_
  refine k_nc ?_
  refine k_f rfl ?_
  refine k_skip ?_
  refine c_norm ?_
  refine k_sg ?_
  refine s_run rfl rfl (r_lo (HR.same H.only) 0 rfl rfl rfl ag22) ?_
  refine s_run rfl rfl (rmi rfl) ?_
  refine s_run rfl rfl (r_ix1 (i := i) rfl rfl (by omega) (by omega) Try.underlying22 sz3) ?_
  refine s_run rfl rfl (r_lv (HR.same H.only) 1 rfl rfl hget ag3) ?_
  refine s_run rfl rfl (rai rfl) ?_
  refine k_nc ?_
  refine k_ret ?_
  refine fin1r (v := .int _ _) rfl rfl ?_
  exact ⟨rfl, H.only⟩
end Go.Proofs.Ytdgmlfpikgjnlaa
end

section
namespace Go.Proofs.Ytdgmlfpikgjnlaa
open Go.RowKit
set_option maxRecDepth 100000
set_option maxHeartbeats 2000000
/-- a node that is made -/
def nodeE (x : NodeS) : Ent := grp [ownN 1 (.slice x.A x.n x.c) x.n (x.ps.map (Value.int .i64)) 3, ownN 1 (.slice x.B x.m x.d) x.m (x.ds.map (Value.int .u64)) 78]
def flatN (ns : List NodeS) : List C1 := ns.flatMap fun x => [C1.s x.A x.n x.c, C1.s x.B x.m x.d]
theorem flatN_snoc (ns : List NodeS) (x : NodeS) : flatN (ns ++ [x]) = flatN ns ++ [C1.s x.A x.n x.c, C1.s x.B x.m x.d] := by simp [flatN]
theorem flatN_len (ns : List NodeS) : (flatN ns).length = ns.length * 2 := by
 induction ns with
 | nil => rfl
 | cons x l ih => simp [flatN] at ih ⊢; omega
theorem flatN_get : ∀ (ns : List NodeS) (i : Nat) (x : NodeS), ns[i]? = some x → (flatN ns)[i * 2]? = some (C1.s x.A x.n x.c) ∧ (flatN ns)[i * 2 + 1]? = some (C1.s x.B x.m x.d)
 | [], i, x, h => by simp at h
 | y :: l, 0, x, h => by
  obtain rfl : y = x := by simpa using h
  exact ⟨rfl, rfl⟩
 | y :: l, i + 1, x, h => by
  have := flatN_get l i x (by simpa using h)
  rw [show (i + 1) * 2 = i * 2 + 2 by omega]
  exact this
theorem Heap.wrap {w0 W : World} {F : List Nat} {A L : List Ent} (H : Heap w0 F (A ++ L) W) : Heap w0 F (grp A :: L) W := by
 have e : ids (grp A :: L) = ids (A ++ L) := by rw [ids_cons, ids_append]; rfl
 refine ⟨fun E hE => ?_, by rw [e]; exact H.nd, by rw [e]; exact H.own, H.only⟩
 rcases List.mem_cons.1 hE with rfl | hE
 ·exact H.part
 ·exact H.ok E (List.mem_append_right _ hE)
/-- a graph that was made reads as one -/
theorem made_ok {w W : World} {F : List Nat} {L : List Ent} {RA NA : Option Addr} {cR cN : Nat} {rs : List Int} {ns : List NodeS} {T : TypeId} (H : Heap w F (ownN 1 (.slice RA rs.length cR) rs.length (rs.map (Value.int .i64)) 3 :: ownN 2 (.slice NA ns.length cN) ns.length ((flatN ns).map C1.v) T :: grp (ns.map nodeE) :: L) W)
  (hr : rs.length ≤ 100000) (hn : ns.length ≤ 100000) (hrb : ∀ p ∈ rs, -9223372036854775808 ≤ p ∧ p ≤ 9223372036854775807) (hx : ∀ x ∈ ns, x.n ≤ 100000 ∧ x.m ≤ 100000 ∧ (∀ p ∈ x.ps, -9223372036854775808 ≤ p ∧ p ≤ 9223372036854775807) ∧ ∀ p ∈ x.ds, 0 ≤ p ∧ p ≤ 18446744073709551615) :
  GrOk W [] ⟨RA, rs.length, cR, rs, NA, ns.length, cN, ns⟩ := by
 refine ⟨H.own_sees 0 rfl, rfl, hrb, ⟨fun h0 => ?_, fun x hxm => ?_⟩, rfl, by show rs.length ≤ _; omega, by show ns.length ≤ _; omega⟩
 ·have h0' : ns.length ≠ 0 := h0
  obtain ⟨b, e, _, hr⟩ := H.own_seesN 1 rfl (by rw [flatN_len]; omega)
  refine ⟨b, 0, e, by simp, fun i x hi j u hj => ?_⟩
  obtain ⟨g1, g2⟩ := flatN_get ns i x hi
  have hj2 : j < 2 := by have := (List.getElem?_eq_some_iff.1 hj).1; exact this
  rw [show 0 + i * 2 + j = 0 + (i * 2 + j) by omega]
  match j, hj2, hj with
  | 0, _, hj => exact (hr _ _ g1).trans (by simpa [NodeS.cells, C1.v] using hj)
  | 1, _, hj => exact (hr _ _ g2).trans (by simpa [NodeS.cells, C1.v] using hj)
 ·have hE := H.grp_ents 2 rfl
  have h1 := hE.1 (nodeE x) (List.mem_map.2 ⟨x, hxm, rfl⟩)
  have h2 : Ents [ownN 1 (.slice x.A x.n x.c) x.n (x.ps.map (Value.int .i64)) 3, ownN 1 (.slice x.B x.m x.d) x.m (x.ds.map (Value.int .u64)) 78] W := h1
  have H2 := Heap.start h2
  obtain ⟨b1, b2, b3, b4⟩ := hx x hxm
  refine ⟨H2.own_sees 0 rfl, ?_, H2.own_sees 1 rfl, ?_, b3, b4, by omega, by omega⟩
  ·have := (H2.own_get 0 rfl).1; simpa using this
  ·have := (H2.own_get 1 rfl).1; simpa using this
theorem made_ok' {w W : World} {F : List Nat} {L : List Ent} {RA NA : Option Addr} {n m cR cN : Nat} {rs : List Int} {ns : List NodeS} {T : TypeId} (hrl : rs.length = n) (hnl : ns.length = m) (H : Heap w F (ownN 1 (.slice RA n cR) n (rs.map (Value.int .i64)) 3 :: ownN 2 (.slice NA m cN) m ((flatN ns).map C1.v) T :: grp (ns.map nodeE) :: L) W)
  (hr : n ≤ 100000) (hn : m ≤ 100000) (hrb : ∀ p ∈ rs, -9223372036854775808 ≤ p ∧ p ≤ 9223372036854775807) (hx : ∀ x ∈ ns, x.n ≤ 100000 ∧ x.m ≤ 100000 ∧ (∀ p ∈ x.ps, -9223372036854775808 ≤ p ∧ p ≤ 9223372036854775807) ∧ ∀ p ∈ x.ds, 0 ≤ p ∧ p ≤ 18446744073709551615) :
  GrOk W [] ⟨RA, n, cR, rs, NA, m, cN, ns⟩ := by
 subst hrl; subst hnl
 exact made_ok H hr hn hrb hx
def NumOk (m : Nat) (num : List Int) (out : List Int) (i : Nat) : Prop := num.length = m ∧ ∀ (j : Nat) (y : Int), j < i → out[j]? = some y → num.getD y.toNat 0 = (j : Int)
theorem NumOk.step {m : Nat} {num : List Int} {out : List Int} {i : Nat} {y : Nat} (h : NumOk m num out i) (hd : out.Nodup) (hp : ∀ x ∈ out, 0 ≤ x) (hy : out[i]? = some (y : Int)) (hm : y < m) : NumOk m (num.set y (i : Int)) out (i + 1) := by
 refine ⟨by simpa using h.1, fun j z hj hz => ?_⟩
 have hzm := List.mem_of_getElem? hz
 obtain ⟨z', rfl⟩ := Int.eq_ofNat_of_zero_le (hp z hzm)
 rw [Int.toNat_natCast, List.getD, List.getElem?_set]
 by_cases e : y = z'
 ·subst e
  rw [if_pos rfl, if_pos (by rw [h.1]; exact hm)]
  have hij : i = j := by
   obtain ⟨hi1, hi2⟩ := List.getElem?_eq_some_iff.1 hy
   obtain ⟨hj1, hj2⟩ := List.getElem?_eq_some_iff.1 hz
   have q1 := Gr.fnd_at out i hi1 hd
   have q2 := Gr.fnd_at out j hj1 hd
   rw [hi2] at q1
   rw [hj2] at q2
   omega
  simp [hij]
 ·rw [if_neg e]
  have hji : j < i := by
   rcases Nat.lt_or_ge j i with h1 | h1
   ·exact h1
   ·obtain rfl : j = i := by omega
    rw [hy] at hz; injection hz with hz; omega
  have := h.2 j _ hji hz
  rw [Int.toNat_natCast] at this
  exact this
theorem NumOk.fnd {m : Nat} {num : List Int} {out : List Int} (h : NumOk m num out out.length) (hd : out.Nodup) (hp : ∀ x ∈ out, 0 ≤ x) (x : Int) (hx : 0 ≤ x → x ∈ out) : (if x < 0 then -1 else num.getD x.toNat 0) = Gr.fnd out x := by
 by_cases h0 : x < 0
 ·rw [if_pos h0, Gr.fnd_no]
  intro hm; have := hp x hm; omega
 ·rw [if_neg h0]
  obtain ⟨i, hi, hx2, hf⟩ := Gr.fnd_mem out x hd (hx (by omega))
  rw [hf, h.2 i x hi hx2]
end Go.Proofs.Ytdgmlfpikgjnlaa
end

section
namespace Go.Proofs.Ytdgmlfpikgjnlaa
open Go.RowKit
set_option maxRecDepth 100000
set_option maxHeartbeats 4000000
theorem take_snoc {α β : Type} (f : α → β) (xs : List α) (i : Nat) (x : α) (h : xs[i]? = some x) : (xs.take (i + 1)).map f = (xs.take i).map f ++ [f x] := by
 rw [List.take_add_one, h, List.map_append]; rfl
def canP (g : GrS) (out : List Int) (y : Int) : List Int × List Int := ((Gr.ptr g.nodes y).map (Gr.fnd out), Gr.dat g.nodes y)
theorem gCanon1 (g : GrS) (w : World) (hg : GrOk w [] g) (hb : rightB g = true) (hs : Sm g) :
  Calls Try.prog 28 [.agg g.cells.toArray].toArray w fun e w' => (∃ g' out, e = .returned (.tuple [.agg g'.cells.toArray, .int .i64 0].toArray) ∧ GrOk w' [] g' ∧ Gr.IsOrd (Gr.ptr g.nodes) g.rs out ∧ g'.rs = Gr.canonR g.rs out ∧ g'.nodes = Gr.canonN g.nodes out ∧ g'.n = g.n ∧ g'.m = out.length ∧ out.length ≤ g.m ∧ ∀ x ∈ g'.ns, x.n ≤ 1000 ∧ x.m ≤ 100000) ∧ Only [] w w' := by
 have H := Heap.nil w
 have hR := fun W (h : Only [] w W) => gRight g W (hg.later h (by simp))
 rw [hb] at hR
 have hO := fun W (h : Only [] w W) => gOrder g W (hg.later h (by simp)) hb hs
 have hrs := hg.rs
 have hrl := hg.rl
 have hnl := hg.nl
 have hn := hs.n
 have hm := hs.m
 unfold GrS.cells at *
 refine k_in (N := 98) Try.func28 rfl rfl rfl ?_
 refine k_sg ?_
 refine s_box H rfl rfl ?_
 intro p1 _ H'; clear H; have H := H'; clear H'
 refine s_al H rfl inf25 ?_
 intro p2 _ H'; clear H; have H := H'; clear H'
 refine s_run rfl rfl (rai rfl) ?_
 refine k_nc ?_
 refine k_seq ?_
 refine k_sg ?_
 refine s_run rfl rfl (r_la H 1 rfl rfl rfl ag25 sz25) ?_
 refine s_call rfl (hR _ H.only) (ca29 rfl) ?_
 rintro e W1 ⟨rfl, H'⟩
 refine ⟨_, rfl, ?_⟩
 have H := H.same H'; clear H'
 refine s_run rfl rfl (r_notT rfl) ?_
 refine k_nc ?_
 refine k_f rfl ?_
 refine k_skip ?_
 refine c_norm ?_
 refine k_sg ?_
 refine s_run rfl rfl (r_la H 1 rfl rfl rfl ag25 sz25) ?_
 refine s_call rfl (hO _ H.only) (ca56 rfl) ?_
 rintro e W1 ⟨A, c, out, rfl, ho, H'⟩
 refine ⟨_, rfl, ?_⟩
 have H := H.more H'; clear H'
 refine s_run rfl rfl (ras rfl) ?_
 refine k_nc ?_
 refine k_sg ?_
 refine s_run rfl rfl (r_fa0 rfl fo25_1) ?_
 refine s_run rfl rfl (r_lo H 2 rfl rfl rfl ag23) ?_
 refine s_run rfl rfl (r_len rfl Try.underlying23) ?_
 refine s_mk (Value.int .i64) 0 (m := g.m) H rfl rfl rfl (by omega) (by omega) (by omega) Try.underlying22 inf3 rfl ?_
 intro nb _ H'; clear H; have H := H'; clear H'
 refine s_al1 H rfl inf22 rfl ?_
 intro p5 _ H'; clear H; have H := H'; clear H'
 refine s_st (u := .slice _ _ _) H 0 rfl rfl rfl rfl rfl rfl sz22 ?_
 clear H; intro _ H; simp only [jA, jB, jC, jD, jE, jF, jG, jH, jI, jJ, jK, Nat.reduceAdd] at H
 refine k_nc ?_
 refine k_seq ?_
 refine k_sg ?_
 refine s_run rfl rfl (rms rfl) ?_
 refine s_run rfl rfl (r_len rfl Try.underlying22) ?_
 refine s_run rfl rfl (rmi rfl) ?_
 refine k_nc ?_
 refine k_b ?_
 have hod := ho.nodup
 have hop := ho.pos
 have hrt : Gr.Rt g.rs g.nodes := ⟨fun r hr => by
  have := right_roots hb r hr
  unfold okP at this
  have e : g.nodes.length = g.m := by simp [GrS.nodes, hnl]
  rw [e]; exact this, fun x hx p hp => by
  unfold GrS.nodes at hx
  obtain ⟨y, hy, rfl⟩ := List.mem_map.1 hx
  have := right_ptrs hb y hy p hp
  unfold okP at this
  have e : g.nodes.length = g.m := by simp [GrS.nodes, hnl]
  rw [e]; exact this⟩
 have hob : ∀ x ∈ out, 0 ≤ x ∧ x < (g.m : Int) := fun x hx => by
  have := hrt.ord ho x hx
  have e : g.nodes.length = g.m := by simp [GrS.nodes, hnl]
  rw [e] at this; exact this
 have hol : out.length ≤ g.m := Gr.nodup_len g.m out hod hob
 have hz : NumOk g.m (List.replicate g.m 0) out 0 := ⟨by simp, fun j y h => by omega⟩
 generalize List.replicate g.m (0 : Int) = num0 at *
 refine k_loop (fun z f W => ∃ (i : Nat) (num : List Int), i ≤ out.length ∧ z = out.length - i ∧ NumOk g.m num out i ∧ f 1 = ptr p1 ∧ f 2 = ptr p2 ∧ f 4 = .slice A out.length c ∧ f 5 = ptr p5 ∧ f 27 = .slice A out.length c ∧ f 28 = .int .i64 out.length ∧ f 29 = .int .i64 i ∧ Heap w [] [blk p5 [.slice (some ⟨nb, 0, none⟩) g.m g.m] 22, vec (Value.int .i64) nb num 3, ownN 1 (.slice A out.length c) out.length (out.map (Value.int .i64)) 3, blk p2 [.slice none 0 0, .slice none 0 0] 25, blk p1 [.slice g.A g.n g.c, .slice g.B g.m g.d] 25] W) out.length ⟨0, num0, by omega, rfl, hz, rfl, rfl, rfl, rfl, rfl, rfl, rfl, H⟩ ?_
 clear H hz
 rintro z f W ⟨i, num, hi, rfl, hnum, f1, f2, f4, f5, f27, f28, f29, H⟩
 have hnl0 := hnum.1
 by_cases hlt : i < out.length
 ·obtain ⟨y, hy⟩ : ∃ y, out[i]? = some y := ⟨_, List.getElem?_eq_getElem hlt⟩
  have hyb := hob y (List.mem_of_getElem? hy)
  obtain ⟨y', rfl⟩ := Int.eq_ofNat_of_zero_le hyb.1
  have hstep := hnum.step hod hop hy (by omega)
  obtain ⟨pa, rfl⟩ := H.own_some 2 rfl (by omega)
  obtain ⟨f, rfl⟩ := lv7 f1 f2 f4 f5 f27 f28 f29
  clear f1 f2 f4 f5 f27 f28 f29
  refine k_sg ?_
  refine s_run rfl rfl (r_lssT rfl rfl (by omega)) ?_
  refine k_nc ?_
  refine k_seq ?_
  refine k_t rfl ?_
  refine k_skip ?_
  refine c_norm ?_
  refine k_seq ?_
  refine k_b ?_
  refine k_sg ?_
  refine s_run rfl rfl (rmi rfl) ?_
  refine s_run rfl rfl (r_ix1 (i := i) rfl rfl (by omega) (by omega) Try.underlying22 sz3) ?_
  refine s_run rfl rfl (r_ow H 2 rfl rfl hy ag3) ?_
  refine s_run rfl rfl (rai rfl) ?_
  refine s_run rfl rfl (rai rfl) ?_
  refine k_nc ?_
  refine k_rg ?_
  refine s_run rfl rfl (r_lo H 0 rfl rfl rfl ag22) ?_
  refine s_run rfl rfl (rmi rfl) ?_
  refine s_run rfl rfl (rmi rfl) ?_
  refine s_run rfl rfl (r_ix1 (i := y') rfl rfl (by omega) (by omega) Try.underlying22 sz3) ?_
  refine s_sv (u := .int _ _) H 1 rfl rfl rfl rfl rfl (by omega) (fun _ => rfl) sz3 ?_
  clear H; intro _ H; simp only [jA, jB, jC, jD, jE, jF, jG, jH, jI, jJ, jK, Nat.reduceAdd] at H
  refine k_nil ?_
  refine b_norm ?_
  refine c_norm ?_
  refine k_rg ?_
  refine s_run rfl rfl (r_add rfl rfl (wI (by omega))) ?_
  refine s_run rfl rfl (rmi rfl) ?_
  refine k_nil ?_
  refine c_round ?_
  refine ⟨_, _, ?_, rfl, i + 1, _, by omega, rfl, hstep, rfl, rfl, rfl, rfl, rfl, rfl, rfl, H⟩
  omega
 ·obtain rfl : i = out.length := by omega
  have hto := fun x hx => hnum.fnd hod hop x hx
  obtain ⟨f, rfl⟩ := lv7 f1 f2 f4 f5 f27 f28 f29
  clear f1 f2 f4 f5 f27 f28 f29
  refine k_sg ?_
  refine s_run rfl rfl (r_lssF rfl rfl (by omega)) ?_
  refine k_nc ?_
  refine k_seq ?_
  refine k_f rfl ?_
  refine k_exit ?_
  refine c_exit ?_
  refine c_exit ?_
  refine b_hit ?_
  refine c_norm ?_
  refine k_sg ?_
  refine s_run rfl rfl (r_mkf rfl) ?_
  refine s_run rfl rfl (r_as (v := .func _ _ _) rfl) ?_
  refine k_nc ?_
  refine k_sg ?_
  refine s_al H rfl inf25 ?_
  intro p9 _ H'; clear H; have H := H'; clear H'
  refine k_nc ?_
  refine k_seq ?_
  refine k_sg ?_
  refine s_run rfl rfl (r_fa0 rfl fo25_0) ?_
  refine s_run rfl rfl (r_lo H 5 rfl rfl rfl ag22) ?_
  refine s_run rfl rfl (r_len rfl Try.underlying22) ?_
  refine s_run rfl rfl (rmi rfl) ?_
  refine k_nc ?_
  refine k_b ?_
  replace H := H.own_nil 1 3
  replace H := H.order [1, 0, 2, 3, 4, 5, 6] rfl rfl
  refine k_loop (fun z f W => ∃ (i : Nat) (RA : Option Addr) (cR : Nat), i ≤ g.n ∧ z = g.n - i ∧ f 1 = ptr p1 ∧ f 2 = ptr p2 ∧ f 4 = .slice A out.length c ∧ f 8 = .func (.func 58) #[] [ptr p5].toArray ∧ f 9 = ptr p9 ∧ f 41 = .slice g.A g.n g.c ∧ f 42 = .int .i64 g.n ∧ f 43 = .int .i64 i ∧ Heap w [] [blk p9 [.slice RA i cR, .slice none 0 0] 25, ownN 1 (.slice RA i cR) i (((g.rs.take i).map (Gr.fnd out)).map (Value.int .i64)) 3, blk p5 [.slice (some ⟨nb, 0, none⟩) g.m g.m] 22, vec (Value.int .i64) nb num 3, ownN 1 (.slice A out.length c) out.length (out.map (Value.int .i64)) 3, blk p2 [.slice none 0 0, .slice none 0 0] 25, blk p1 [.slice g.A g.n g.c, .slice g.B g.m g.d] 25] W) g.n ⟨0, none, 0, by omega, rfl, rfl, rfl, rfl, rfl, rfl, rfl, rfl, rfl, H⟩ ?_
  clear H
  rintro z f W ⟨i, RA, cR, hi, rfl, f1, f2, f4, f8, f9, f41, f42, f43, H⟩
  by_cases hlt : i < g.n
  ·obtain ⟨r, hrr⟩ : ∃ r, g.rs[i]? = some r := ⟨_, List.getElem?_eq_getElem (by omega)⟩
   obtain ⟨b, o, hA, _, hrd⟩ := hrs (by omega)
   have hcell := hrd i r hrr
   have hrm := List.mem_of_getElem? hrr
   have hok := right_roots hb r hrm
   have hT := fun {W : World} hE => gTo p5 nb g.m num r W hE hnl0 hok.2
   rw [hto r (fun h => ho.from r hrm h)] at hT
   rw [hA] at f41
   obtain ⟨f, rfl⟩ := lv8 f1 f2 f4 f8 f9 f41 f42 f43
   clear f1 f2 f4 f8 f9 f41 f42 f43
   refine k_sg ?_
   refine s_run rfl rfl (r_lssT rfl rfl (by omega)) ?_
   refine k_nc ?_
   refine k_seq ?_
   refine k_t rfl ?_
   refine k_skip ?_
   refine c_norm ?_
   refine k_seq ?_
   refine k_b ?_
   refine k_sg ?_
   refine s_run rfl rfl (r_ix1o (i := i) rfl rfl (by omega) (by omega) Try.underlying22 sz3) ?_
   refine s_run rfl rfl (r_lr H rfl hcell (by simp) ag3) ?_
   refine s_run rfl rfl (rai rfl) ?_
   refine k_nc ?_
   refine k_trF mixed ?_; have H' := H.drew; clear H; have H := H'; clear H'
   refine tqh 0 rfl rfl rfl (fun _ hS => r_fa0 rfl fo25_0) trivial ?_
   refine tqh 2 rfl rfl rfl (fun _ hS => r_mv (v := .func _ _ _) rfl) trivial ?_
   refine tqh 3 rfl rfl rfl (fun _ hS => r_mv (v := .int _ _) rfl) trivial ?_
   refine t_up2 1 4 (by kernel_rfl) ?_ ?_
   ·refine up_mk rfl ?_
    refine s_run rfl rfl (r_lo H 0 rfl rfl rfl ag22) ?_
    refine k_nil ?_
    refine t_on trivial ?_
    refine t_up1 4 (by kernel_rfl) ?_
    refine up_mk rfl ?_
    refine s_callV rfl rfl rfl Try.func58 (by kernel_rfl) (by kernel_rfl) (hT (H.order [2, 3, 0, 1, 4, 5, 6] rfl rfl : Heap w [] ([_, _] ++ [_, _, _, _, _]) _).part) ?_
    rintro e W1 ⟨rfl, H'⟩
    refine ⟨_, rfl, ?_⟩
    have H := H.same H'; clear H'
    refine k_nil ?_
    refine t_on trivial ?_
    refine t_up1 5 (by kernel_rfl) ?_
    refine up_mk rfl ?_
    refine s_bsO (enc := (Value.int .i64)) (zs := [Gr.fnd out r]) H rfl rfl rfl (by omega) (by kernel_rfl) Try.underlying22 inf3 ?_
    intro _ _ H'; clear H; have H := H'; clear H'
    refine k_nil ?_
    refine t_on trivial ?_
    refine t_up1 6 (by kernel_rfl) ?_
    refine up_mk rfl ?_
    refine s_apB (enc := (Value.int .i64)) (size := 1) H 1 rfl rfl rfl rfl (fun _ => rfl) (by omega) (by omega) Try.underlying22 inf3 rfl ?_
    intro RA' cR' _ H'; simp only [List.set_cons_zero, List.set_cons_succ, List.take_succ_cons, List.take_zero, List.drop_succ_cons, List.drop_zero, List.cons_append, List.nil_append, List.append_nil, List.length_cons, List.length_nil, Nat.reduceAdd] at H'; clear H; have H := H'; clear H'
    refine k_nil ?_
    refine t_on trivial ?_
    refine tqh 7 rfl rfl rfl (fun _ hS => r_fa0 rfl fo25_0) trivial ?_
    refine t_up1 8 (by kernel_rfl) ?_
    refine up_mk rfl ?_
    refine s_st (u := .slice _ _ _) H 0 rfl rfl rfl rfl rfl rfl sz22 ?_
    clear H; intro _ H; simp only [jA, jB, jC, jD, jE, jF, jG, jH, jI, jJ, jK, Nat.reduceAdd] at H
    refine k_nil ?_
    refine t_on trivial ?_
    refine t_done (by kernel_rfl) ?_
    refine b_norm ?_
    refine c_norm ?_
    refine k_rg ?_
    refine s_run rfl rfl (r_add rfl rfl (wI (by omega))) ?_
    refine s_run rfl rfl (rmi rfl) ?_
    refine k_nil ?_
    refine c_round ?_
    refine ⟨_, _, ?_, rfl, i + 1, RA', cR', by omega, rfl, rfl, rfl, rfl, rfl, rfl, by rw [hA]; rfl, rfl, rfl, by rw [take_snoc _ _ _ _ hrr]; exact H⟩
    omega
   ·refine up_mk rfl ?_
    refine s_callV rfl rfl rfl Try.func58 (by kernel_rfl) (by kernel_rfl) (hT (H.order [2, 3, 0, 1, 4, 5, 6] rfl rfl : Heap w [] ([_, _] ++ [_, _, _, _, _]) _).part) ?_
    rintro e W1 ⟨rfl, H'⟩
    refine ⟨_, rfl, ?_⟩
    have H := H.same H'; clear H'
    refine k_nil ?_
    refine t_on trivial ?_
    refine t_up2 1 5 (by kernel_rfl) ?_ ?_
    ·refine up_mk rfl ?_
     refine s_run rfl rfl (r_lo H 0 rfl rfl rfl ag22) ?_
     refine k_nil ?_
     refine t_on trivial ?_
     refine t_up1 5 (by kernel_rfl) ?_
     refine up_mk rfl ?_
     refine s_bsO (enc := (Value.int .i64)) (zs := [Gr.fnd out r]) H rfl rfl rfl (by omega) (by kernel_rfl) Try.underlying22 inf3 ?_
     intro _ _ H'; clear H; have H := H'; clear H'
     refine k_nil ?_
     refine t_on trivial ?_
     refine t_up1 6 (by kernel_rfl) ?_
     refine up_mk rfl ?_
     refine s_apB (enc := (Value.int .i64)) (size := 1) H 1 rfl rfl rfl rfl (fun _ => rfl) (by omega) (by omega) Try.underlying22 inf3 rfl ?_
     intro RA' cR' _ H'; simp only [List.set_cons_zero, List.set_cons_succ, List.take_succ_cons, List.take_zero, List.drop_succ_cons, List.drop_zero, List.cons_append, List.nil_append, List.append_nil, List.length_cons, List.length_nil, Nat.reduceAdd] at H'; clear H; have H := H'; clear H'
     refine k_nil ?_
     refine t_on trivial ?_
     refine tqh 7 rfl rfl rfl (fun _ hS => r_fa0 rfl fo25_0) trivial ?_
     refine t_up1 8 (by kernel_rfl) ?_
     refine up_mk rfl ?_
     refine s_st (u := .slice _ _ _) H 0 rfl rfl rfl rfl rfl rfl sz22 ?_
     clear H; intro _ H; simp only [jA, jB, jC, jD, jE, jF, jG, jH, jI, jJ, jK, Nat.reduceAdd] at H
     refine k_nil ?_
     refine t_on trivial ?_
     refine t_done (by kernel_rfl) ?_
     refine b_norm ?_
     refine c_norm ?_
     refine k_rg ?_
     refine s_run rfl rfl (r_add rfl rfl (wI (by omega))) ?_
     refine s_run rfl rfl (rmi rfl) ?_
     refine k_nil ?_
     refine c_round ?_
     refine ⟨_, _, ?_, rfl, i + 1, RA', cR', by omega, rfl, rfl, rfl, rfl, rfl, rfl, by rw [hA]; rfl, rfl, rfl, by rw [take_snoc _ _ _ _ hrr]; exact H⟩
     omega
    ·refine up_mk rfl ?_
     refine s_bsO (enc := (Value.int .i64)) (zs := [Gr.fnd out r]) H rfl rfl rfl (by omega) (by kernel_rfl) Try.underlying22 inf3 ?_
     intro _ _ H'; clear H; have H := H'; clear H'
     refine k_nil ?_
     refine t_on trivial ?_
     refine t_up1 1 (by kernel_rfl) ?_
     refine up_mk rfl ?_
     refine s_run rfl rfl (r_lo H 1 rfl rfl rfl ag22) ?_
     refine k_nil ?_
     refine t_on trivial ?_
     refine t_up1 6 (by kernel_rfl) ?_
     refine up_mk rfl ?_
     refine s_apB (enc := (Value.int .i64)) (size := 1) H 1 rfl rfl rfl rfl (fun _ => rfl) (by omega) (by omega) Try.underlying22 inf3 rfl ?_
     intro RA' cR' _ H'; simp only [List.set_cons_zero, List.set_cons_succ, List.take_succ_cons, List.take_zero, List.drop_succ_cons, List.drop_zero, List.cons_append, List.nil_append, List.append_nil, List.length_cons, List.length_nil, Nat.reduceAdd] at H'; clear H; have H := H'; clear H'
     refine k_nil ?_
     refine t_on trivial ?_
     refine tqh 7 rfl rfl rfl (fun _ hS => r_fa0 rfl fo25_0) trivial ?_
     refine t_up1 8 (by kernel_rfl) ?_
     refine up_mk rfl ?_
     refine s_st (u := .slice _ _ _) H 0 rfl rfl rfl rfl rfl rfl sz22 ?_
     clear H; intro _ H; simp only [jA, jB, jC, jD, jE, jF, jG, jH, jI, jJ, jK, Nat.reduceAdd] at H
     refine k_nil ?_
     refine t_on trivial ?_
     refine t_done (by kernel_rfl) ?_
     refine b_norm ?_
     refine c_norm ?_
     refine k_rg ?_
     refine s_run rfl rfl (r_add rfl rfl (wI (by omega))) ?_
     refine s_run rfl rfl (rmi rfl) ?_
     refine k_nil ?_
     refine c_round ?_
     refine ⟨_, _, ?_, rfl, i + 1, RA', cR', by omega, rfl, rfl, rfl, rfl, rfl, rfl, by rw [hA]; rfl, rfl, rfl, by rw [take_snoc _ _ _ _ hrr]; exact H⟩
     omega
  ·obtain rfl : i = g.n := by omega
   obtain ⟨f, rfl⟩ := lv7 f1 f2 f4 f8 f9 f42 f43
   clear f1 f2 f4 f8 f9 f41 f42 f43
   refine k_sg ?_
   refine s_run rfl rfl (r_lssF rfl rfl (by omega)) ?_
   refine k_nc ?_
   refine k_seq ?_
   refine k_f rfl ?_
   refine k_exit ?_
   refine c_exit ?_
   refine c_exit ?_
   refine b_hit ?_
   refine c_norm ?_
   refine k_seq ?_
   refine k_sg ?_
   refine s_run rfl rfl (rms rfl) ?_
   refine s_run rfl rfl (r_len rfl Try.underlying22) ?_
   refine s_run rfl rfl (rmi rfl) ?_
   refine k_nc ?_
   refine k_b ?_
   have etk : g.rs.take g.n = g.rs := by rw [← hrl]; exact List.take_length
   rw [etk] at H
   replace H := (H.own_nil 2 39).grp_nil
   replace H := H.order [2, 1, 0, 3, 4, 5, 6, 7, 8] rfl rfl
   refine k_loop (fun z f W => ∃ (i : Nat) (NA : Option Addr) (cN : Nat) (ns : List NodeS), i ≤ out.length ∧ z = out.length - i ∧ ns.length = i ∧ ns.map (fun x => (x.ps, x.ds)) = (out.take i).map (canP g out) ∧ (∀ x ∈ ns, x.n ≤ 1000 ∧ x.m ≤ 100000) ∧ f 1 = ptr p1 ∧ f 2 = ptr p2 ∧ f 8 = .func (.func 58) #[] [ptr p5].toArray ∧ f 9 = ptr p9 ∧ f 56 = .slice A out.length c ∧ f 57 = .int .i64 out.length ∧ f 58 = .int .i64 i ∧
    Heap w [] [blk p9 [.slice RA g.n cR, .slice NA i cN] 25, ownN 2 (.slice NA i cN) i ((flatN ns).map C1.v) 39, grp (ns.map nodeE), ownN 1 (.slice RA g.n cR) g.n ((g.rs.map (Gr.fnd out)).map (Value.int .i64)) 3, blk p5 [.slice (some ⟨nb, 0, none⟩) g.m g.m] 22, vec (Value.int .i64) nb num 3, ownN 1 (.slice A out.length c) out.length (out.map (Value.int .i64)) 3, blk p2 [.slice none 0 0, .slice none 0 0] 25, blk p1 [.slice g.A g.n g.c, .slice g.B g.m g.d] 25] W) out.length ⟨0, none, 0, [], by omega, rfl, rfl, rfl, by simp, rfl, rfl, rfl, rfl, rfl, rfl, rfl, H⟩ ?_
   clear H
   rintro z f W ⟨i, NA, cN, ns, hi, rfl, hnsl, hnsm, hnsb, f1, f2, f8, f9, f56, f57, f58, H⟩
   by_cases hlt : i < out.length
   ·obtain ⟨y, hy⟩ : ∃ y, out[i]? = some y := ⟨_, List.getElem?_eq_getElem hlt⟩
    have hym := List.mem_of_getElem? hy
    have hyb := hob y hym
    obtain ⟨x', rfl⟩ := Int.eq_ofNat_of_zero_le hyb.1
    obtain ⟨x, hx⟩ : ∃ x, g.ns[x']? = some x := ⟨_, List.getElem?_eq_getElem (by omega)⟩
    have hxm := List.mem_of_getElem? hx
    obtain ⟨b, o, hB, _, hrd⟩ := hg.ns.1 (by omega)
    have hc0 := hrd x' x hx 0 _ rfl
    have hc1 := hrd x' x hx 1 _ rfl
    have hxo := hg.ns.2 x hxm
    have hxn := (hs.p x hxm).1
    have hxd := (hs.p x hxm).2
    have hpl := hxo.pl
    have hCl := fun W (h : Only [] w W) => gCloneU x.B x.m x.d x.ds W (hxo.ds.later h (by simp)) hxo.dl hxd
    obtain ⟨pa, hpa⟩ := H.own_some 6 rfl (by omega)
    rw [hpa] at H f56
    rw [hB] at H
    obtain ⟨f, rfl⟩ := lv7 f1 f2 f8 f9 f56 f57 f58
    clear f1 f2 f8 f9 f56 f57 f58
    refine k_sg ?_
    refine s_run rfl rfl (r_lssT rfl rfl (by omega)) ?_
    refine k_nc ?_
    refine k_seq ?_
    refine k_t rfl ?_
    refine k_skip ?_
    refine c_norm ?_
    refine k_seq ?_
    refine k_b ?_
    refine k_sg ?_
    refine s_run rfl rfl (r_ix1 (i := i) rfl rfl (by omega) (by omega) Try.underlying22 sz3) ?_
    refine s_run rfl rfl (r_ow H 6 rfl rfl hy ag3) ?_
    refine s_run rfl rfl (rai rfl) ?_
    refine k_nc ?_
    refine k_sg ?_
    refine s_run rfl rfl (r_fa0 rfl fo25_1) ?_
    refine s_run rfl rfl (r_lo H 8 rfl rfl rfl ag23) ?_
    refine s_run rfl rfl (rmi rfl) ?_
    refine s_run rfl rfl (r_ix (i := x') rfl rfl (by omega) (by omega) Try.underlying23 sz39) ?_
    refine s_run rfl rfl (r_fa rfl fo39_1) ?_
    refine s_run rfl rfl (r_lr H rfl hc1 (by simp) ag37) ?_
    refine s_call rfl (hCl _ H.only) (ca55 rfl) ?_
    rintro e W1 ⟨DB, dD, rfl, H'⟩
    refine ⟨_, rfl, ?_⟩
    have H := H.more H'; clear H'
    refine s_run rfl rfl (r_bd (bd39_1 _ _ _) rfl) ?_
    refine s_al H rfl inf39 ?_
    intro p14 _ H'; clear H; have H := H'; clear H'
    refine s_sw H 0 rfl rfl rfl rfl rfl rfl rfl sz39 ?_
    clear H; intro _ H; simp only [jA, jB, jC, jD, jE, jF, jG, jH, jI, jJ, jK, Nat.reduceAdd] at H
    refine k_nc ?_
    refine k_seq ?_
    refine k_sg ?_
    refine s_run rfl rfl (r_fa0 rfl fo25_1) ?_
    refine s_run rfl rfl (r_lo H 10 rfl rfl rfl ag23) ?_
    refine s_run rfl rfl (rmi rfl) ?_
    refine s_run rfl rfl (r_ix (i := x') rfl rfl (by omega) (by omega) Try.underlying23 sz39) ?_
    refine s_run rfl rfl (r_fa rfl fo39_0) ?_
    refine s_run rfl rfl (r_lr H rfl hc0 (by simp) ag22) ?_
    refine s_run rfl rfl (r_len rfl Try.underlying22) ?_
    refine s_run rfl rfl (rmi rfl) ?_
    refine k_nc ?_
    refine k_b ?_
    rw [← hB, ← hpa] at H
    replace H := H.own_nil 1 3
    replace H := H.order [1, 0, 2, 3, 4, 5, 6, 7, 8, 9, 10, 11] rfl rfl
    refine k_loop (fun z f W => ∃ (k : Nat) (PA : Option Addr) (cP : Nat), k ≤ x.n ∧ z = x.n - k ∧ f 1 = ptr p1 ∧ f 2 = ptr p2 ∧ f 8 = .func (.func 58) #[] [ptr p5].toArray ∧ f 9 = ptr p9 ∧ f 14 = ptr p14 ∧ f 56 = .slice A out.length c ∧ f 57 = .int .i64 out.length ∧ f 58 = .int .i64 i ∧ f 75 = .slice x.A x.n x.c ∧ f 76 = .int .i64 x.n ∧ f 77 = .int .i64 k ∧
     Heap w [] [blk p14 [.slice PA k cP, .slice DB x.m dD] 39, ownN 1 (.slice PA k cP) k (((x.ps.take k).map (Gr.fnd out)).map (Value.int .i64)) 3, ownN 1 (.slice DB x.m dD) x.m (x.ds.map (Value.int .u64)) 78, blk p9 [.slice RA g.n cR, .slice NA i cN] 25, ownN 2 (.slice NA i cN) i ((flatN ns).map C1.v) 39, grp (ns.map nodeE), ownN 1 (.slice RA g.n cR) g.n ((g.rs.map (Gr.fnd out)).map (Value.int .i64)) 3, blk p5 [.slice (some ⟨nb, 0, none⟩) g.m g.m] 22, vec (Value.int .i64) nb num 3, ownN 1 (.slice A out.length c) out.length (out.map (Value.int .i64)) 3, blk p2 [.slice none 0 0, .slice none 0 0] 25, blk p1 [.slice g.A g.n g.c, .slice g.B g.m g.d] 25] W) x.n ⟨0, none, 0, by omega, rfl, rfl, rfl, rfl, rfl, rfl, by rw [hpa]; rfl, rfl, rfl, rfl, rfl, rfl, H⟩ ?_
    clear H
    rintro z f W ⟨k, PA, cP, hk, rfl, f1, f2, f8, f9, f14, f56, f57, f58, f75, f76, f77, H⟩
    by_cases hlk : k < x.n
    ·obtain ⟨q, hq⟩ : ∃ q, x.ps[k]? = some q := ⟨_, List.getElem?_eq_getElem (by omega)⟩
     obtain ⟨b2, o2, hA2, _, hrd2⟩ := hxo.ps (by omega)
     have hcell := hrd2 k q hq
     have hqm := List.mem_of_getElem? hq
     have hok := right_ptrs hb x hxm q hqm
     have hT := fun {W : World} hE => gTo p5 nb g.m num q W hE hnl0 hok.2
     rw [hto q (fun h => ho.closed _ hym q (by rw [(nodes_at hx).1]; exact hqm) h)] at hT
     rw [hA2] at f75
     obtain ⟨f, rfl⟩ := lv11 f1 f2 f8 f9 f14 f56 f57 f58 f75 f76 f77
     clear f1 f2 f8 f9 f14 f56 f57 f58 f75 f76 f77
     refine k_sg ?_
     refine s_run rfl rfl (r_lssT rfl rfl (by omega)) ?_
     refine k_nc ?_
     refine k_seq ?_
     refine k_t rfl ?_
     refine k_skip ?_
     refine c_norm ?_
     refine k_seq ?_
     refine k_b ?_
     refine k_sg ?_
     refine s_run rfl rfl (r_ix1o (i := k) rfl rfl (by omega) (by omega) Try.underlying22 sz3) ?_
     refine s_run rfl rfl (r_lr H rfl hcell (by simp) ag3) ?_
     refine s_run rfl rfl (rai rfl) ?_
     refine k_nc ?_
     refine k_trF mixed ?_; have H' := H.drew; clear H; have H := H'; clear H'
     refine tqh 0 rfl rfl rfl (fun _ hS => r_fa0 rfl fo39_0) trivial ?_
     refine tqh 2 rfl rfl rfl (fun _ hS => r_mv (v := .func _ _ _) rfl) trivial ?_
     refine tqh 3 rfl rfl rfl (fun _ hS => r_mv (v := .int _ _) rfl) trivial ?_
     refine t_up2 1 4 (by kernel_rfl) ?_ ?_
     ·refine up_mk rfl ?_
      refine s_run rfl rfl (r_lo H 0 rfl rfl rfl ag22) ?_
      refine k_nil ?_
      refine t_on trivial ?_
      refine t_up1 4 (by kernel_rfl) ?_
      refine up_mk rfl ?_
      refine s_callV rfl rfl rfl Try.func58 (by kernel_rfl) (by kernel_rfl) (hT (H.order [7, 8, 0, 1, 2, 3, 4, 5, 6, 9, 10, 11] rfl rfl : Heap w [] ([_, _] ++ [_, _, _, _, _, _, _, _, _, _]) _).part) ?_
      rintro e W1 ⟨rfl, H'⟩
      refine ⟨_, rfl, ?_⟩
      have H := H.same H'; clear H'
      refine k_nil ?_
      refine t_on trivial ?_
      refine t_up1 5 (by kernel_rfl) ?_
      refine up_mk rfl ?_
      refine s_bsO (enc := (Value.int .i64)) (zs := [Gr.fnd out q]) H rfl rfl rfl (by omega) (by kernel_rfl) Try.underlying22 inf3 ?_
      intro _ _ H'; clear H; have H := H'; clear H'
      refine k_nil ?_
      refine t_on trivial ?_
      refine t_up1 6 (by kernel_rfl) ?_
      refine up_mk rfl ?_
      refine s_apB (enc := (Value.int .i64)) (size := 1) H 1 rfl rfl rfl rfl (fun _ => rfl) (by omega) (by omega) Try.underlying22 inf3 rfl ?_
      intro PA' cP' _ H'; simp only [List.set_cons_zero, List.set_cons_succ, List.take_succ_cons, List.take_zero, List.drop_succ_cons, List.drop_zero, List.cons_append, List.nil_append, List.append_nil, List.length_cons, List.length_nil, Nat.reduceAdd] at H'; clear H; have H := H'; clear H'
      refine k_nil ?_
      refine t_on trivial ?_
      refine tqh 7 rfl rfl rfl (fun _ hS => r_fa0 rfl fo39_0) trivial ?_
      refine t_up1 8 (by kernel_rfl) ?_
      refine up_mk rfl ?_
      refine s_st (u := .slice _ _ _) H 0 rfl rfl rfl rfl rfl rfl sz22 ?_
      clear H; intro _ H; simp only [jA, jB, jC, jD, jE, jF, jG, jH, jI, jJ, jK, Nat.reduceAdd] at H
      refine k_nil ?_
      refine t_on trivial ?_
      refine t_done (by kernel_rfl) ?_
      refine b_norm ?_
      refine c_norm ?_
      refine k_rg ?_
      refine s_run rfl rfl (r_add rfl rfl (wI (by omega))) ?_
      refine s_run rfl rfl (rmi rfl) ?_
      refine k_nil ?_
      refine c_round ?_
      refine ⟨_, _, ?_, rfl, k + 1, PA', cP', by omega, rfl, rfl, rfl, rfl, rfl, rfl, rfl, rfl, rfl, by rw [hA2]; rfl, rfl, rfl, by rw [take_snoc _ _ _ _ hq]; exact H⟩
      omega
     ·refine up_mk rfl ?_
      refine s_callV rfl rfl rfl Try.func58 (by kernel_rfl) (by kernel_rfl) (hT (H.order [7, 8, 0, 1, 2, 3, 4, 5, 6, 9, 10, 11] rfl rfl : Heap w [] ([_, _] ++ [_, _, _, _, _, _, _, _, _, _]) _).part) ?_
      rintro e W1 ⟨rfl, H'⟩
      refine ⟨_, rfl, ?_⟩
      have H := H.same H'; clear H'
      refine k_nil ?_
      refine t_on trivial ?_
      refine t_up2 1 5 (by kernel_rfl) ?_ ?_
      ·refine up_mk rfl ?_
       refine s_run rfl rfl (r_lo H 0 rfl rfl rfl ag22) ?_
       refine k_nil ?_
       refine t_on trivial ?_
       refine t_up1 5 (by kernel_rfl) ?_
       refine up_mk rfl ?_
       refine s_bsO (enc := (Value.int .i64)) (zs := [Gr.fnd out q]) H rfl rfl rfl (by omega) (by kernel_rfl) Try.underlying22 inf3 ?_
       intro _ _ H'; clear H; have H := H'; clear H'
       refine k_nil ?_
       refine t_on trivial ?_
       refine t_up1 6 (by kernel_rfl) ?_
       refine up_mk rfl ?_
       refine s_apB (enc := (Value.int .i64)) (size := 1) H 1 rfl rfl rfl rfl (fun _ => rfl) (by omega) (by omega) Try.underlying22 inf3 rfl ?_
       intro PA' cP' _ H'; simp only [List.set_cons_zero, List.set_cons_succ, List.take_succ_cons, List.take_zero, List.drop_succ_cons, List.drop_zero, List.cons_append, List.nil_append, List.append_nil, List.length_cons, List.length_nil, Nat.reduceAdd] at H'; clear H; have H := H'; clear H'
       refine k_nil ?_
       refine t_on trivial ?_
       refine tqh 7 rfl rfl rfl (fun _ hS => r_fa0 rfl fo39_0) trivial ?_
       refine t_up1 8 (by kernel_rfl) ?_
       refine up_mk rfl ?_
       refine s_st (u := .slice _ _ _) H 0 rfl rfl rfl rfl rfl rfl sz22 ?_
       clear H; intro _ H; simp only [jA, jB, jC, jD, jE, jF, jG, jH, jI, jJ, jK, Nat.reduceAdd] at H
       refine k_nil ?_
       refine t_on trivial ?_
       refine t_done (by kernel_rfl) ?_
       refine b_norm ?_
       refine c_norm ?_
       refine k_rg ?_
       refine s_run rfl rfl (r_add rfl rfl (wI (by omega))) ?_
       refine s_run rfl rfl (rmi rfl) ?_
       refine k_nil ?_
       refine c_round ?_
       refine ⟨_, _, ?_, rfl, k + 1, PA', cP', by omega, rfl, rfl, rfl, rfl, rfl, rfl, rfl, rfl, rfl, by rw [hA2]; rfl, rfl, rfl, by rw [take_snoc _ _ _ _ hq]; exact H⟩
       omega
      ·refine up_mk rfl ?_
       refine s_bsO (enc := (Value.int .i64)) (zs := [Gr.fnd out q]) H rfl rfl rfl (by omega) (by kernel_rfl) Try.underlying22 inf3 ?_
       intro _ _ H'; clear H; have H := H'; clear H'
       refine k_nil ?_
       refine t_on trivial ?_
       refine t_up1 1 (by kernel_rfl) ?_
       refine up_mk rfl ?_
       refine s_run rfl rfl (r_lo H 1 rfl rfl rfl ag22) ?_
       refine k_nil ?_
       refine t_on trivial ?_
       refine t_up1 6 (by kernel_rfl) ?_
       refine up_mk rfl ?_
       refine s_apB (enc := (Value.int .i64)) (size := 1) H 1 rfl rfl rfl rfl (fun _ => rfl) (by omega) (by omega) Try.underlying22 inf3 rfl ?_
       intro PA' cP' _ H'; simp only [List.set_cons_zero, List.set_cons_succ, List.take_succ_cons, List.take_zero, List.drop_succ_cons, List.drop_zero, List.cons_append, List.nil_append, List.append_nil, List.length_cons, List.length_nil, Nat.reduceAdd] at H'; clear H; have H := H'; clear H'
       refine k_nil ?_
       refine t_on trivial ?_
       refine tqh 7 rfl rfl rfl (fun _ hS => r_fa0 rfl fo39_0) trivial ?_
       refine t_up1 8 (by kernel_rfl) ?_
       refine up_mk rfl ?_
       refine s_st (u := .slice _ _ _) H 0 rfl rfl rfl rfl rfl rfl sz22 ?_
       clear H; intro _ H; simp only [jA, jB, jC, jD, jE, jF, jG, jH, jI, jJ, jK, Nat.reduceAdd] at H
       refine k_nil ?_
       refine t_on trivial ?_
       refine t_done (by kernel_rfl) ?_
       refine b_norm ?_
       refine c_norm ?_
       refine k_rg ?_
       refine s_run rfl rfl (r_add rfl rfl (wI (by omega))) ?_
       refine s_run rfl rfl (rmi rfl) ?_
       refine k_nil ?_
       refine c_round ?_
       refine ⟨_, _, ?_, rfl, k + 1, PA', cP', by omega, rfl, rfl, rfl, rfl, rfl, rfl, rfl, rfl, rfl, by rw [hA2]; rfl, rfl, rfl, by rw [take_snoc _ _ _ _ hq]; exact H⟩
       omega
    ·obtain rfl : k = x.n := by omega
     have etp : x.ps.take x.n = x.ps := by rw [← hpl]; exact List.take_length
     rw [etp] at H
     obtain ⟨f, rfl⟩ := lv11 f1 f2 f8 f9 f14 f56 f57 f58 f75 f76 f77
     clear f1 f2 f8 f9 f14 f56 f57 f58 f75 f76 f77
     refine k_sg ?_
     refine s_run rfl rfl (r_lssF rfl rfl (by omega)) ?_
     refine k_nc ?_
     refine k_seq ?_
     refine k_f rfl ?_
     refine k_exit ?_
     refine c_exit ?_
     refine c_exit ?_
     refine b_hit ?_
     refine c_norm ?_
     refine k_rg ?_
     refine s_run rfl rfl (r_fa0 rfl fo25_1) ?_
     refine s_run rfl rfl (r_lo H 3 rfl rfl rfl ag23) ?_
     refine s_run rfl rfl (r_la H 0 rfl rfl rfl ag39 sz39) ?_
     refine s_appN (enc := C1.v) (zs := [C1.s PA x.n cP, C1.s DB x.m dD]) H 4 rfl rfl rfl rfl C1.one (by omega) (by kernel_rfl) rfl rfl rfl (by omega) Try.underlying23 inf39 rfl ?_
     intro _ NA' cN' _ H'; simp only [List.set_cons_zero, List.set_cons_succ, List.take_succ_cons, List.take_zero, List.drop_succ_cons, List.drop_zero, List.cons_append, List.nil_append, List.append_nil, List.length_cons, List.length_nil, Nat.reduceAdd] at H'; clear H; have H := H'; clear H'
     refine s_run rfl rfl (r_fa0 rfl fo25_1) ?_
     refine s_st (u := .slice _ _ _) H 3 rfl rfl rfl rfl rfl rfl sz23 ?_
     clear H; intro _ H; simp only [jA, jB, jC, jD, jE, jF, jG, jH, jI, jJ, jK, Nat.reduceAdd] at H
     refine k_nil ?_
     refine b_norm ?_
     refine c_norm ?_
     refine k_rg ?_
     refine s_run rfl rfl (r_add rfl rfl (wI (by omega))) ?_
     refine s_run rfl rfl (rmi rfl) ?_
     refine k_nil ?_
     refine c_round ?_
     replace H := (H.order [1, 2, 5, 3, 4, 6, 7, 8, 9, 10, 11, 0] rfl rfl : Heap w [] ([_, _] ++ [_, _, _, _, _, _, _, _, _, _]) _).wrap
     replace H := H.grp_snoc (E := nodeE (NodeS.mk PA x.n cP (x.ps.map (Gr.fnd out)) DB x.m dD x.ds))
     replace H := (H.order [1, 2, 0, 3, 4, 5, 6, 7, 8, 9] rfl rfl : Heap w [] ([_, _, _, _, _, _, _, _, _] ++ [_]) _).drops
     have e1 : ns.map nodeE ++ [nodeE (NodeS.mk PA x.n cP (x.ps.map (Gr.fnd out)) DB x.m dD x.ds)] = (ns ++ [(NodeS.mk PA x.n cP (x.ps.map (Gr.fnd out)) DB x.m dD x.ds)]).map nodeE := by simp
     rw [e1] at H
     have e2 := flatN_snoc ns (NodeS.mk PA x.n cP (x.ps.map (Gr.fnd out)) DB x.m dD x.ds)
     refine ⟨_, _, ?_, rfl, i + 1, some ⟨NA', 0, none⟩, cN', ns ++ [(NodeS.mk PA x.n cP (x.ps.map (Gr.fnd out)) DB x.m dD x.ds)], by omega, rfl, by simp [hnsl], ?_, fun z hz => ?_, rfl, rfl, rfl, rfl, rfl, rfl, rfl, ?_⟩
     ·omega
     ·rw [List.map_append, hnsm, take_snoc _ _ _ _ hy]
      congr 1
      unfold canP
      rw [(nodes_at hx).1, (nodes_at hx).2]; rfl
     ·rcases List.mem_append.1 hz with hz | hz
      ·exact hnsb z hz
      ·rw [List.mem_singleton.1 hz]; exact ⟨hxn, hxd⟩
     ·rw [e2]; exact H
   ·obtain rfl : i = out.length := by omega
    obtain ⟨f, rfl⟩ := lv7 f1 f2 f8 f9 f56 f57 f58
    clear f1 f2 f8 f9 f56 f57 f58
    refine k_sg ?_
    refine s_run rfl rfl (r_lssF rfl rfl (by omega)) ?_
    refine k_nc ?_
    refine k_seq ?_
    refine k_f rfl ?_
    refine k_exit ?_
    refine c_exit ?_
    refine c_exit ?_
    refine b_hit ?_
    refine c_norm ?_
    refine k_sg ?_
    refine s_run rfl rfl (r_la H 0 rfl rfl rfl ag25 sz25) ?_
    refine s_sw H 7 rfl rfl rfl rfl rfl rfl rfl sz25 ?_
    clear H; intro _ H; simp only [jA, jB, jC, jD, jE, jF, jG, jH, jI, jJ, jK, Nat.reduceAdd] at H
    refine s_run rfl rfl (rai rfl) ?_
    refine k_nc ?_
    refine k_ret ?_
    refine fx2r rfl (rv_a H 7 rfl rfl rfl ag25 sz25) (rv_t (v := .int _ _) rfl) ?_
    have eto : out.take out.length = out := List.take_length
    rw [eto] at hnsm
    have hNs : ns.map (fun x => (x.ps, x.ds)) = Gr.canonN g.nodes out := hnsm
    have hfb : ∀ z, -9223372036854775808 ≤ Gr.fnd out z ∧ Gr.fnd out z ≤ 9223372036854775807 := fun z => by
     have := Gr.fnd_bd out z hod; omega
    have hok := made_ok' (n := g.n) (m := out.length) (by rw [List.length_map, hrl]) hnsl (H.order [3, 1, 2, 0, 4, 5, 6, 7, 8] rfl rfl) (by omega) (by omega) (fun p hp => by
     obtain ⟨z, _, rfl⟩ := List.mem_map.1 hp
     exact hfb z) (fun x hx => by
     obtain ⟨h1, h2⟩ := hnsb x hx
     have h3 : (x.ps, x.ds) ∈ Gr.canonN g.nodes out := by rw [← hNs]; exact List.mem_map.2 ⟨x, hx, rfl⟩
     unfold Gr.canonN at h3
     obtain ⟨y, hy, he⟩ := List.mem_map.1 h3
     injection he with he1 he2
     refine ⟨by omega, h2, fun p hp => ?_, fun p hp => ?_⟩
     ·rw [← he1] at hp
      obtain ⟨z, _, rfl⟩ := List.mem_map.1 hp
      exact hfb z
     ·rw [← he2] at hp
      have hyb := hob y hy
      obtain ⟨y', rfl⟩ := Int.eq_ofNat_of_zero_le hyb.1
      obtain ⟨z, hz⟩ : ∃ z, g.ns[y']? = some z := ⟨_, List.getElem?_eq_getElem (by omega)⟩
      rw [(nodes_at hz).2] at hp
      exact (hg.ns.2 z (List.mem_of_getElem? hz)).db p hp)
    exact ⟨⟨⟨RA, g.n, cR, _, NA, out.length, cN, ns⟩, out, rfl, hok, ho, rfl, hNs, rfl, rfl, hol, hnsb⟩, H.only⟩
end Go.Proofs.Ytdgmlfpikgjnlaa
end

section
namespace Go.Proofs.Ytdgmlfpikgjnlaa.Cl
open Go Go.RowKit
def szs : List Int := [2, 3, 4, 5, 6, 7, 8, 10, 12, 14, 16, 18, 20, 24, 28, 32, 36, 40, 46, 51, 56, 64, 73, 85, 92, 102, 113, 128, 146, 170, 204, 256]
def sz (j : Nat) : Int := szs.getD j 0
/-- words of a class -/
def words (k : Int) : Int := if 0 ≤ k ∧ k < 32 then sz k.toNat else 0
theorem words_in (k : Int) (h : 0 ≤ k) (h2 : k < 32) : words k = sz k.toNat := by unfold words; rw [if_pos ⟨h, h2⟩]
theorem sz_step : ∀ j < 31, sz j < sz (j + 1) := by decide
theorem sz_mono (d : Nat) : ∀ j, j + d < 32 → sz j ≤ sz (j + d) := by
  induction d with
  | zero => intro j _; exact Int.le_refl _
  | succ d ih => intro j h; have a := ih j (by omega); have b := sz_step (j + d) (by omega); have e : j + (d + 1) = j + d + 1 := by omega
                 rw [e]; omega
theorem words_mono (i j : Int) (h0 : 0 ≤ i) (h : i ≤ j) (h2 : j < 32) : words i ≤ words j := by
  rw [words_in i h0 (by omega), words_in j (by omega) h2]
  have := sz_mono (j.toNat - i.toNat) i.toNat (by omega)
  rwa [show i.toNat + (j.toNat - i.toNat) = j.toNat from by omega] at this
/-- the least class whose cells have so many words; -1: none -/
def Least (n k : Int) : Prop := 0 ≤ k ∧ k < 32 ∧ n ≤ words k ∧ ∀ j, 0 ≤ j → j < k → words j < n
theorem Least.lt {n k : Int} (h : Least n k) (j : Int) (h0 : 0 ≤ j) (h1 : j < k) : words j < n := h.2.2.2 j h0 h1
/-- cells of a class -/
def cells (k : Int) : Int := if 0 ≤ k ∧ k < 32 then 512 / words k else 0
/-- an object's words -/
def size (p d : Int) : Int := if p < 0 ∨ p > 63 ∨ d < 0 ∨ d > 16384 then 0 else 1 + p + d
def rightB (k : Int) : Bool := decide (0 ≤ k ∧ k < 32)
def BelowAll (n j : Int) : Prop := ∀ i : Int, 0 ≤ i → i < j → words i < n
theorem BelowAll.zero (n : Int) : BelowAll n 0 := fun i a b => by omega
theorem BelowAll.succ {n j : Int} (h : BelowAll n j) (hj : words j < n) : BelowAll n (j + 1) := fun i a b => by
  by_cases hi : i < j
  · exact h i a hi
  · obtain rfl : i = j := by omega
    exact hj
theorem BelowAll.up {n j m : Int} (h : words m < n) (hm : m < 32) : BelowAll n (m + 1) := fun i a b => by
  have := words_mono i m a (by omega) hm
  omega
theorem BelowAll.least {n j : Int} (h : BelowAll n j) (h0 : 0 ≤ j) (h1 : j < 32) (h2 : n ≤ words j) : Least n j := ⟨h0, h1, h2, h⟩
end Go.Proofs.Ytdgmlfpikgjnlaa.Cl
end

section
namespace Go.Proofs.Ytdgmlfpikgjnlaa
open Go.RowKit
set_option maxHeartbeats 400000
set_option maxRecDepth 100000
end Go.Proofs.Ytdgmlfpikgjnlaa
end

section
namespace Go.Proofs.Ytdgmlfpikgjnlaa
open Go.RowKit
set_option maxHeartbeats 400000
set_option maxRecDepth 100000
end Go.Proofs.Ytdgmlfpikgjnlaa
end

section
namespace Go.Proofs.Ytdgmlfpikgjnlaa.Ce
open Go Go.RowKit
def first (n bl : Int) : Int := if 0 ≤ bl ∧ bl < n then bl * 512 else -1
/-- the addresses of a block's cells -/
def all (n k b : Int) : List Int := if 1 ≤ b ∧ b < n then (List.range (Cl.cells k).toNat).map fun (i : Nat) => 512 * b + (i : Int) * Cl.words k else []
end Go.Proofs.Ytdgmlfpikgjnlaa.Ce
end

section
namespace Go.Proofs.Ytdgmlfpikgjnlaa
open Go.RowKit
set_option maxHeartbeats 1000000
set_option maxRecDepth 100000
end Go.Proofs.Ytdgmlfpikgjnlaa
end

section
namespace Go.Proofs.Ytdgmlfpikgjnlaa
open Go.RowKit
set_option maxHeartbeats 400000
set_option maxRecDepth 100000
end Go.Proofs.Ytdgmlfpikgjnlaa
end

section
namespace Go.Proofs.Ytdgmlfpikgjnlaa.Xp
open Go Go.RowKit
/-- k behind so many digits -/
def kd (c k : Int) : Nat → Int
 | 0 => k
 | i + 1 => kd c k i / c
def okC (l c k : Int) : Prop := 0 ≤ l ∧ l ≤ 65536 ∧ 1 ≤ c ∧ c ≤ 256 ∧ 0 ≤ k
instance (l c k : Int) : Decidable (okC l c k) := by unfold okC; infer_instance
/-- the number of digits, the lowest first -/
def nval (c : Int) : List Int → Int
 | [] => 0
 | d :: l => d + c * nval c l
def okD (c : Int) (l : List Int) : Prop := ∀ d ∈ l, 0 ≤ d ∧ d < c
/-- the number that the page says; -1: none -/
def cOk (c : Int) : Prop := 1 ≤ c ∧ c ≤ 256
instance (c : Int) : Decidable (cOk c) := by unfold cOk; infer_instance
instance (c : Int) (l : List Int) : Decidable (okD c l) := by unfold okD; infer_instance
def numOk (c : Int) (l : List Int) : Prop := cOk c ∧ okD c l ∧ nval c l ≤ 1099511627776
instance (c : Int) (l : List Int) : Decidable (numOk c l) := by unfold numOk; infer_instance
def number (c : Int) (l : List Int) : Int := if numOk c l then nval c l else -1
/-- the place of a digit, as the reference has it -/
def pl (c : Int) : Nat → Int
 | 0 => 1
 | i + 1 => if pl c i ≤ 1099511627776 then pl c i * c else pl c i
/-- what the code keeps: the number, and what is over -/
def over (w n : Int) (i : Nat) : Int := (i : Int) * w % n
/-- how many are told -/
def many (v m : Int) : Int := min (min v m) 4096
end Go.Proofs.Ytdgmlfpikgjnlaa.Xp
end

section
namespace Go.Proofs.Ytdgmlfpikgjnlaa
open Go.RowKit
set_option maxHeartbeats 400000
set_option maxRecDepth 100000
end Go.Proofs.Ytdgmlfpikgjnlaa
end

section
namespace Go.Proofs.Ytdgmlfpikgjnlaa
open Go.RowKit
set_option maxHeartbeats 400000
set_option maxRecDepth 100000
/-- the call returns a row of its own, these integers -/
def OwnInts (k : IntKind) (T : TypeId) (xs : List Int) (w : World) (e : Ending) (w' : World) : Prop :=
 ∃ v, e = .returned v ∧ w'.ownsRow w.heap.size T 1 v xs.length (xs.map (Value.int k)) ∧ Below w.heap.size w w'
theorem OwnInts.mk {k : IntKind} {T : TypeId} {xs : List Int} {w : World} {e : Ending} {w' : World} (v : Value) (he : e = .returned v) (n : Nat) (hn : xs.length = n) (ho : w'.ownsRow w.heap.size T 1 v n (xs.map (Value.int k))) (hb : Below w.heap.size w w') : OwnInts k T xs w e w' :=
 ⟨v, he, by rw [hn]; exact ho, hb⟩
theorem OwnInts.nil {k : IntKind} {T : TypeId} {xs : List Int} {w : World} {w' : World} (hx : xs = []) (hb : Below w.heap.size w w') : OwnInts k T xs w (.returned (.slice none 0 0)) w' := by
 subst hx; exact ⟨_, rfl, World.ownsRow_nil _ _ _ _, hb⟩
end Go.Proofs.Ytdgmlfpikgjnlaa
end

section
namespace Go.Proofs.Ytdgmlfpikgjnlaa
open Go.RowKit
end Go.Proofs.Ytdgmlfpikgjnlaa
end

section
namespace Go.Proofs.Ytdgmlfpikgjnlaa
open Go.RowKit
set_option maxHeartbeats 2000000
set_option maxRecDepth 100000
end Go.Proofs.Ytdgmlfpikgjnlaa
end

section
namespace Go.Proofs.Ytdgmlfpikgjnlaa
open Go.RowKit
set_option maxRecDepth 100000
set_option maxHeartbeats 1000000
end Go.Proofs.Ytdgmlfpikgjnlaa
end

section
namespace Go.Proofs.Ytdgmlfpikgjnlaa
open Go.RowKit
set_option maxRecDepth 100000
theorem only_drewN (w : World) (q : Nat) : Only [] w (w.drewN q) := ⟨rfl, rfl, rfl, Nat.le_refl _, fun _ _ _ => rfl⟩
theorem Sees.take {α : Type} {enc : α → Value} {w : World} {F : List Nat} {A : Option Addr} {xs : List α} (h : Sees enc w F A xs) (k : Nat) : Sees enc w F A (xs.take k) := by
 intro h0
 simp at h0
 obtain ⟨b, o, e, hb, hr⟩ := h (by intro h2; exact h0.2 (List.eq_nil_of_length_eq_zero h2))
 refine ⟨b, o, e, hb, fun i z hz => hr i z ?_⟩
 rw [List.getElem?_take] at hz
 split at hz
 ·exact hz
 ·cases hz
end Go.Proofs.Ytdgmlfpikgjnlaa
end

section
namespace Go.Proofs.Ytdgmlfpikgjnlaa
open Go.RowKit
set_option maxRecDepth 100000
set_option maxHeartbeats 2000000
def sameB (a b : GrS) : Bool := decide (a.rs = b.rs ∧ a.nodes = b.nodes)
theorem GrS.nodes_len (g : GrS) : g.nodes.length = g.ns.length := by simp [GrS.nodes]
theorem nodes_get {g : GrS} {i : Nat} {x : NodeS} (h : g.ns[i]? = some x) : g.nodes[i]? = some (x.ps, x.ds) := by unfold GrS.nodes; rw [List.getElem?_map, h]; rfl
end Go.Proofs.Ytdgmlfpikgjnlaa
end

section
namespace Go.Proofs.Ytdgmlfpikgjnlaa
open Go.RowKit
set_option maxRecDepth 100000
set_option maxHeartbeats 2000000
theorem dRight (g : GrS) (w : World) (hg : GrOk w [] g) :
  Calls Try.prog 18 [.agg g.cells.toArray].toArray w fun e w' => e = .returned (.bool (rightB g)) ∧ Only [] w w' := by
 have H := Heap.nil w
 have hrs := hg.rs
 have hrl := hg.rl
 have hmb := hg.mb
 have hnb := hg.nb
 have hnl := hg.nl
 have hbad1 : ∀ r ∈ g.rs, ¬ okP g.m r → rightB g = false := fun r hr hn => decide_eq_false fun h => hn (h.1 r hr)
 have hbad2 : ∀ x ∈ g.ns, ¬ okN g.m x → rightB g = false := fun r hr hn => decide_eq_false fun h => hn (h.2 r hr)
 have hgood : (∀ j r, j < g.n → g.rs[j]? = some r → okP g.m r) → (∀ j x, j < g.m → g.ns[j]? = some x → okN g.m x) → rightB g = true := fun h1 h2 => decide_eq_true ⟨fun r hr => by
  obtain ⟨j, hj, rfl⟩ := List.mem_iff_getElem.1 hr
  exact h1 j _ (by omega) (List.getElem?_eq_getElem hj), fun r hr => by
  obtain ⟨j, hj, rfl⟩ := List.mem_iff_getElem.1 hr
  exact h2 j _ (by omega) (List.getElem?_eq_getElem hj)⟩
 unfold GrS.cells
 refine k_in (N := 77) Try.func18 rfl rfl rfl ?_
 refine k_sg ?_
 refine s_box H rfl rfl ?_
 intro p1 _ H'; clear H; have H := H'; clear H'
 refine s_run rfl rfl (rab rfl) ?_
 refine k_nc ?_
 refine k_seq ?_
 refine k_sg ?_
 refine s_run rfl rfl (rai rfl) ?_
 refine k_nc ?_
 refine k_b ?_
 refine k_loop (fun z f W => ∃ i : Nat, i ≤ g.n ∧ z = g.n - i ∧ (∀ j r, j < i → g.rs[j]? = some r → okP g.m r) ∧ f 1 = ptr p1 ∧ f 3 = .int .i64 i ∧ Heap w [] [blk p1 [.slice g.A g.n g.c, .slice g.B g.m g.d] 30] W) g.n ⟨0, by omega, rfl, by omega, rfl, rfl, H⟩ ?_
 clear H
 rintro z f W ⟨i, hi, rfl, hall, f1, f3, H⟩
 obtain ⟨f, rfl⟩ := live2 f1 f3
 clear f1 f3
 by_cases hlt : i < g.n
 ·obtain ⟨r, hr⟩ : ∃ r, g.rs[i]? = some r := ⟨_, List.getElem?_eq_getElem (by omega)⟩
  obtain ⟨b, o, hA, _, hrd⟩ := hrs (by omega)
  have hcell := hrd i r hr
  rw [hA] at H
  by_cases hok : okP g.m r
  ·have hok2 := hok
   unfold okP at hok2
   refine k_seq ?_
   refine k_sg ?_
   refine s_run rfl rfl (rmi rfl) ?_
   refine s_run rfl rfl (r_fa0 rfl fo30_0) ?_
   refine s_run rfl rfl (r_lo H 0 rfl rfl rfl ag22) ?_
   refine s_run rfl rfl (r_len rfl Try.underlying22) ?_
   refine s_run rfl rfl (r_lssT rfl rfl (by omega)) ?_
   refine k_nc ?_
   refine k_t rfl ?_
   refine k_skip ?_
   refine c_norm ?_
   refine k_seq ?_
   refine k_b ?_
   refine k_seq ?_
   refine k_q mixed (by kernel_rfl) H ?_
   refine q_run rfl rfl (fun _ H => r_fa0 rfl fo30_0) ?_
   refine q_run rfl rfl (fun _ H => r_lo H 0 rfl rfl rfl ag22) ?_
   refine q_run rfl rfl (fun _ H => r_mv (v := .int _ _) rfl) ?_
   refine q_run rfl rfl (fun _ H => r_ix1o (i := i) rfl rfl (by omega) (by omega) Try.underlying22 sz3) ?_
   refine q_run rfl rfl (fun _ H => r_lr H rfl hcell (by simp) ag3) ?_
   refine q_run rfl rfl (fun _ H => r_lssF rfl rfl (by omega)) ?_
   refine q_run rfl rfl (fun _ H => r_mv (v := .bool _) rfl) ?_
   refine q_run rfl (g_on 20 (by kernel_rfl) rfl) (fun _ H => r_fa0 rfl fo30_0) ?_
   refine q_run rfl (g_on 20 (by kernel_rfl) rfl) (fun _ H => r_lo H 0 rfl rfl rfl ag22) ?_
   refine q_run rfl (g_on 20 (by kernel_rfl) rfl) (fun _ H => r_mv (v := .int _ _) rfl) ?_
   refine q_run rfl (g_on 20 (by kernel_rfl) rfl) (fun _ H => r_ix1o (i := i) rfl rfl (by omega) (by omega) Try.underlying22 sz3) ?_
   refine q_run rfl (g_on 20 (by kernel_rfl) rfl) (fun _ H => r_lr H rfl hcell (by simp) ag3) ?_
   refine q_run rfl (g_on 20 (by kernel_rfl) rfl) (fun _ H => r_fa0 rfl fo30_1) ?_
   refine q_run rfl (g_on 20 (by kernel_rfl) rfl) (fun _ H => r_lo H 0 rfl rfl rfl ag28) ?_
   refine q_run rfl (g_on 20 (by kernel_rfl) rfl) (fun _ H => r_len rfl Try.underlying28) ?_
   refine q_run rfl (g_on 20 (by kernel_rfl) rfl) (fun _ H => r_geqF rfl rfl (by omega)) ?_
   refine q_run rfl rfl (fun _ H => r_pkF (v := .bool _) rfl rfl) ?_
   refine q_nil ?_
   intro _ H'; clear H; have H := H'; clear H'
   refine c_norm ?_
   refine k_f rfl ?_
   refine k_skip ?_
   refine b_norm ?_
   refine c_norm ?_
   refine k_rg ?_
   refine s_run rfl rfl (rmi rfl) ?_
   refine s_run rfl rfl (r_add rfl rfl (wI (by omega))) ?_
   refine s_run rfl rfl (rai rfl) ?_
   refine k_nil ?_
   refine c_round ?_
   rw [← hA] at H
   refine ⟨_, _, ?_, rfl, i + 1, by omega, rfl, fun j q hj hq => ?_, rfl, rfl, H⟩
   ·omega
   ·by_cases e : j = i
    ·subst e; rw [hr] at hq; injection hq with hq; subst hq; exact hok
    ·exact hall j q (by omega) hq
  ·rw [hbad1 r (List.mem_of_getElem? hr) hok]
   unfold okP at hok
   by_cases h1 : r < -1
   ·refine k_seq ?_
    refine k_sg ?_
    refine s_run rfl rfl (rmi rfl) ?_
    refine s_run rfl rfl (r_fa0 rfl fo30_0) ?_
    refine s_run rfl rfl (r_lo H 0 rfl rfl rfl ag22) ?_
    refine s_run rfl rfl (r_len rfl Try.underlying22) ?_
    refine s_run rfl rfl (r_lssT rfl rfl (by omega)) ?_
    refine k_nc ?_
    refine k_t rfl ?_
    refine k_skip ?_
    refine c_norm ?_
    refine k_seq ?_
    refine k_b ?_
    refine k_seq ?_
    refine k_q mixed (by kernel_rfl) H ?_
    refine q_run rfl rfl (fun _ H => r_fa0 rfl fo30_0) ?_
    refine q_run rfl rfl (fun _ H => r_lo H 0 rfl rfl rfl ag22) ?_
    refine q_run rfl rfl (fun _ H => r_mv (v := .int _ _) rfl) ?_
    refine q_run rfl rfl (fun _ H => r_ix1o (i := i) rfl rfl (by omega) (by omega) Try.underlying22 sz3) ?_
    refine q_run rfl rfl (fun _ H => r_lr H rfl hcell (by simp) ag3) ?_
    refine q_run rfl rfl (fun _ H => r_lssT rfl rfl (by omega)) ?_
    refine q_run rfl rfl (fun _ H => r_mv (v := .bool _) rfl) ?_
    refine q_off rfl (g_off 20 (by kernel_rfl) rfl rfl) ?_
    refine q_off rfl (g_off 20 (by kernel_rfl) rfl rfl) ?_
    refine q_off rfl (g_off 20 (by kernel_rfl) rfl rfl) ?_
    refine q_off rfl (g_off 20 (by kernel_rfl) rfl rfl) ?_
    refine q_off rfl (g_off 20 (by kernel_rfl) rfl rfl) ?_
    refine q_off rfl (g_off 20 (by kernel_rfl) rfl rfl) ?_
    refine q_off rfl (g_off 20 (by kernel_rfl) rfl rfl) ?_
    refine q_off rfl (g_off 20 (by kernel_rfl) rfl rfl) ?_
    refine q_off rfl (g_off 20 (by kernel_rfl) rfl rfl) ?_
    refine q_run rfl rfl (fun _ H => r_pkT (v := .bool _) rfl rfl) ?_
    refine q_nil ?_
    intro _ H'; clear H; have H := H'; clear H'
    refine c_norm ?_
    refine k_t rfl ?_
    refine k_sg ?_
    refine s_run rfl rfl (rab rfl) ?_
    refine k_nc ?_
    refine k_ret ?_
    refine b_ret ?_
    refine c_ret ?_
    refine c_ret ?_
    refine b_ret ?_
    refine c_ret ?_
    refine fin1r (v := .bool _) rfl rfl ?_
    exact ⟨rfl, H.only⟩
   ·refine k_seq ?_
    refine k_sg ?_
    refine s_run rfl rfl (rmi rfl) ?_
    refine s_run rfl rfl (r_fa0 rfl fo30_0) ?_
    refine s_run rfl rfl (r_lo H 0 rfl rfl rfl ag22) ?_
    refine s_run rfl rfl (r_len rfl Try.underlying22) ?_
    refine s_run rfl rfl (r_lssT rfl rfl (by omega)) ?_
    refine k_nc ?_
    refine k_t rfl ?_
    refine k_skip ?_
    refine c_norm ?_
    refine k_seq ?_
    refine k_b ?_
    refine k_seq ?_
    refine k_q mixed (by kernel_rfl) H ?_
    refine q_run rfl rfl (fun _ H => r_fa0 rfl fo30_0) ?_
    refine q_run rfl rfl (fun _ H => r_lo H 0 rfl rfl rfl ag22) ?_
    refine q_run rfl rfl (fun _ H => r_mv (v := .int _ _) rfl) ?_
    refine q_run rfl rfl (fun _ H => r_ix1o (i := i) rfl rfl (by omega) (by omega) Try.underlying22 sz3) ?_
    refine q_run rfl rfl (fun _ H => r_lr H rfl hcell (by simp) ag3) ?_
    refine q_run rfl rfl (fun _ H => r_lssF rfl rfl (by omega)) ?_
    refine q_run rfl rfl (fun _ H => r_mv (v := .bool _) rfl) ?_
    refine q_run rfl (g_on 20 (by kernel_rfl) rfl) (fun _ H => r_fa0 rfl fo30_0) ?_
    refine q_run rfl (g_on 20 (by kernel_rfl) rfl) (fun _ H => r_lo H 0 rfl rfl rfl ag22) ?_
    refine q_run rfl (g_on 20 (by kernel_rfl) rfl) (fun _ H => r_mv (v := .int _ _) rfl) ?_
    refine q_run rfl (g_on 20 (by kernel_rfl) rfl) (fun _ H => r_ix1o (i := i) rfl rfl (by omega) (by omega) Try.underlying22 sz3) ?_
    refine q_run rfl (g_on 20 (by kernel_rfl) rfl) (fun _ H => r_lr H rfl hcell (by simp) ag3) ?_
    refine q_run rfl (g_on 20 (by kernel_rfl) rfl) (fun _ H => r_fa0 rfl fo30_1) ?_
    refine q_run rfl (g_on 20 (by kernel_rfl) rfl) (fun _ H => r_lo H 0 rfl rfl rfl ag28) ?_
    refine q_run rfl (g_on 20 (by kernel_rfl) rfl) (fun _ H => r_len rfl Try.underlying28) ?_
    refine q_run rfl (g_on 20 (by kernel_rfl) rfl) (fun _ H => r_geqT rfl rfl (by omega)) ?_
    refine q_run rfl rfl (fun _ H => r_pkF (v := .bool _) rfl rfl) ?_
    refine q_nil ?_
    intro _ H'; clear H; have H := H'; clear H'
    refine c_norm ?_
    refine k_t rfl ?_
    refine k_sg ?_
    refine s_run rfl rfl (rab rfl) ?_
    refine k_nc ?_
    refine k_ret ?_
    refine b_ret ?_
    refine c_ret ?_
    refine c_ret ?_
    refine b_ret ?_
    refine c_ret ?_
    refine fin1r (v := .bool _) rfl rfl ?_
    exact ⟨rfl, H.only⟩
 ·obtain rfl : i = g.n := by omega
  refine k_seq ?_
  refine k_sg ?_
  refine s_run rfl rfl (rmi rfl) ?_
  refine s_run rfl rfl (r_fa0 rfl fo30_0) ?_
  refine s_run rfl rfl (r_lo H 0 rfl rfl rfl ag22) ?_
  refine s_run rfl rfl (r_len rfl Try.underlying22) ?_
  refine s_run rfl rfl (r_lssF rfl rfl (by omega)) ?_
  refine k_nc ?_
  refine k_f rfl ?_
  refine k_exit ?_
  refine c_exit ?_
  refine c_exit ?_
  refine b_hit ?_
  refine c_norm ?_
  refine k_seq ?_
  refine k_sg ?_
  refine s_run rfl rfl (rai rfl) ?_
  refine k_nc ?_
  refine k_b ?_
  refine k_loop (fun z f W => ∃ i : Nat, i ≤ g.m ∧ z = g.m - i ∧ (∀ j x, j < i → g.ns[j]? = some x → okN g.m x) ∧ f 1 = ptr p1 ∧ f 4 = .int .i64 i ∧ Heap w [] [blk p1 [.slice g.A g.n g.c, .slice g.B g.m g.d] 30] W) g.m ⟨0, by omega, rfl, by omega, rfl, rfl, H⟩ ?_
  clear H
  rintro z f W ⟨i, hi, rfl, hall2, f1, f4, H⟩
  obtain ⟨f, rfl⟩ := live2 f1 f4
  clear f1 f4
  by_cases hlt : i < g.m
  ·obtain ⟨x, hx⟩ : ∃ x, g.ns[i]? = some x := ⟨_, List.getElem?_eq_getElem (by omega)⟩
   have hxm := List.mem_of_getElem? hx
   obtain ⟨b, o, hB, _, hrd⟩ := hg.ns.1 (by omega)
   have hrx := hrd i x hx
   have hxo := hg.ns.2 x hxm
   have hxn := hxo.nb
   have hxd := hxo.mb
   have hpl := hxo.pl
   rw [hB] at H
   unfold NodeS.cells at hrx
   by_cases h63 : x.n ≤ 63
   ·by_cases hd : x.m ≤ 16384
    ·refine k_seq ?_
     refine k_sg ?_
     refine s_run rfl rfl (rmi rfl) ?_
     refine s_run rfl rfl (r_fa0 rfl fo30_1) ?_
     refine s_run rfl rfl (r_lo H 0 rfl rfl rfl ag28) ?_
     refine s_run rfl rfl (r_len rfl Try.underlying28) ?_
     refine s_run rfl rfl (r_lssT rfl rfl (by omega)) ?_
     refine k_nc ?_
     refine k_t rfl ?_
     refine k_skip ?_
     refine c_norm ?_
     refine k_seq ?_
     refine k_b ?_
     refine k_sg ?_
     refine s_run rfl rfl (r_fa0 rfl fo30_1) ?_
     refine s_run rfl rfl (r_lo H 0 rfl rfl rfl ag28) ?_
     refine s_run rfl rfl (rmi rfl) ?_
     refine s_run rfl rfl (r_ix (i := i) rfl rfl (by omega) (by omega) Try.underlying28 sz40) ?_
     refine s_run rfl rfl (r_lA (enc := fun v : Value => v) (zs := [.slice x.A x.n x.c, .slice x.B x.m x.d]) (hrx.later H.only (by simp)) rfl rfl ag40 sz40) ?_
     refine s_al H rfl inf40 ?_
     intro p5 _ H'; clear H; have H := H'; clear H'
     refine s_sw H 0 rfl rfl rfl rfl rfl rfl rfl sz40 ?_
     clear H; intro _ H; simp only [jA, jB, jC, jD, jE, jF, jG, jH, jI, jJ, jK, Nat.reduceAdd] at H
     refine k_nc ?_
     refine k_seq ?_
     refine k_sg ?_
     refine s_run rfl rfl (r_fa0 rfl fo40_0) ?_
     refine s_run rfl rfl (r_lo H 0 rfl rfl rfl ag22) ?_
     refine s_run rfl rfl (r_len rfl Try.underlying22) ?_
     refine s_run rfl rfl (r_gtrF rfl rfl (by omega)) ?_
     refine s_run rfl rfl (rmb rfl) ?_
     refine s_run rfl (g_on 47 (by kernel_rfl) rfl) (r_fa0 rfl fo40_1) ?_
     refine s_run rfl (g_on 47 (by kernel_rfl) rfl) (r_lo H 0 rfl rfl rfl ag37) ?_
     refine s_run rfl (g_on 47 (by kernel_rfl) rfl) (r_len rfl Try.underlying37) ?_
     refine s_run rfl (g_on 47 (by kernel_rfl) rfl) (r_gtrF rfl rfl (by omega)) ?_
     refine s_run rfl rfl (r_pkF (v := .bool _) rfl rfl) ?_
     refine k_nc ?_
     refine k_f rfl ?_
     refine k_skip ?_
     refine c_norm ?_
     refine k_sg ?_
     refine s_run rfl rfl (rai rfl) ?_
     refine k_nc ?_
     refine k_b ?_
     rw [← hB] at H
     refine k_loop (fun z f W => ∃ k : Nat, k ≤ x.n ∧ z = x.n - k ∧ (∀ j p, j < k → x.ps[j]? = some p → okP g.m p) ∧ f 1 = ptr p1 ∧ f 4 = .int .i64 i ∧ f 5 = ptr p5 ∧ f 6 = .int .i64 k ∧ Heap w [] [blk p5 [.slice x.A x.n x.c, .slice x.B x.m x.d] 40, blk p1 [.slice g.A g.n g.c, .slice g.B g.m g.d] 30] W) x.n ⟨0, by omega, rfl, by omega, rfl, rfl, rfl, rfl, H⟩ ?_
     clear H
     rintro z f W ⟨k, hk, rfl, hall3, f1, f4, f5, f6, H⟩
     obtain ⟨f, rfl⟩ := live4 f1 f4 f5 f6
     clear f1 f4 f5 f6
     by_cases hkl : k < x.n
     ·obtain ⟨q, hq⟩ : ∃ q, x.ps[k]? = some q := ⟨_, List.getElem?_eq_getElem (by omega)⟩
      obtain ⟨b2, o2, hA2, _, hrd2⟩ := hxo.ps (by omega)
      have hcell := hrd2 k q hq
      rw [hA2] at H
      by_cases hok : okP g.m q
      ·have hok2 := hok
       unfold okP at hok2
       refine k_seq ?_
       refine k_sg ?_
       refine s_run rfl rfl (rmi rfl) ?_
       refine s_run rfl rfl (r_fa0 rfl fo40_0) ?_
       refine s_run rfl rfl (r_lo H 0 rfl rfl rfl ag22) ?_
       refine s_run rfl rfl (r_len rfl Try.underlying22) ?_
       refine s_run rfl rfl (r_lssT rfl rfl (by omega)) ?_
       refine k_nc ?_
       refine k_t rfl ?_
       refine k_skip ?_
       refine c_norm ?_
       refine k_seq ?_
       refine k_b ?_
       refine k_seq ?_
       refine k_q mixed (by kernel_rfl) H ?_
       refine q_run rfl rfl (fun _ H => r_fa0 rfl fo40_0) ?_
       refine q_run rfl rfl (fun _ H => r_lo H 0 rfl rfl rfl ag22) ?_
       refine q_run rfl rfl (fun _ H => r_mv (v := .int _ _) rfl) ?_
       refine q_run rfl rfl (fun _ H => r_ix1o (i := k) rfl rfl (by omega) (by omega) Try.underlying22 sz3) ?_
       refine q_run rfl rfl (fun _ H => r_lr H rfl hcell (by simp) ag3) ?_
       refine q_run rfl rfl (fun _ H => r_lssF rfl rfl (by omega)) ?_
       refine q_run rfl rfl (fun _ H => r_mv (v := .bool _) rfl) ?_
       refine q_run rfl (g_on 66 (by kernel_rfl) rfl) (fun _ H => r_fa0 rfl fo40_0) ?_
       refine q_run rfl (g_on 66 (by kernel_rfl) rfl) (fun _ H => r_lo H 0 rfl rfl rfl ag22) ?_
       refine q_run rfl (g_on 66 (by kernel_rfl) rfl) (fun _ H => r_mv (v := .int _ _) rfl) ?_
       refine q_run rfl (g_on 66 (by kernel_rfl) rfl) (fun _ H => r_ix1o (i := k) rfl rfl (by omega) (by omega) Try.underlying22 sz3) ?_
       refine q_run rfl (g_on 66 (by kernel_rfl) rfl) (fun _ H => r_lr H rfl hcell (by simp) ag3) ?_
       refine q_run rfl (g_on 66 (by kernel_rfl) rfl) (fun _ H => r_fa0 rfl fo30_1) ?_
       refine q_run rfl (g_on 66 (by kernel_rfl) rfl) (fun _ H => r_lo H 1 rfl rfl rfl ag28) ?_
       refine q_run rfl (g_on 66 (by kernel_rfl) rfl) (fun _ H => r_len rfl Try.underlying28) ?_
       refine q_run rfl (g_on 66 (by kernel_rfl) rfl) (fun _ H => r_geqF rfl rfl (by omega)) ?_
       refine q_run rfl rfl (fun _ H => r_pkF (v := .bool _) rfl rfl) ?_
       refine q_nil ?_
       intro _ H'; clear H; have H := H'; clear H'
       refine c_norm ?_
       refine k_f rfl ?_
       refine k_skip ?_
       refine b_norm ?_
       refine c_norm ?_
       refine k_rg ?_
       refine s_run rfl rfl (rmi rfl) ?_
       refine s_run rfl rfl (r_add rfl rfl (wI (by omega))) ?_
       refine s_run rfl rfl (rai rfl) ?_
       refine k_nil ?_
       refine c_round ?_
       rw [← hA2] at H
       refine ⟨_, _, ?_, rfl, k + 1, by omega, rfl, fun j p hj hp => ?_, rfl, rfl, rfl, rfl, H⟩
       ·omega
       ·by_cases e : j = k
        ·subst e; rw [hq] at hp; injection hp with hp; subst hp; exact hok
        ·exact hall3 j p (by omega) hp
      ·rw [hbad2 x hxm (fun h => hok (h.2.2 q (List.mem_of_getElem? hq)))]
       unfold okP at hok
       by_cases h1 : q < -1
       ·refine k_seq ?_
        refine k_sg ?_
        refine s_run rfl rfl (rmi rfl) ?_
        refine s_run rfl rfl (r_fa0 rfl fo40_0) ?_
        refine s_run rfl rfl (r_lo H 0 rfl rfl rfl ag22) ?_
        refine s_run rfl rfl (r_len rfl Try.underlying22) ?_
        refine s_run rfl rfl (r_lssT rfl rfl (by omega)) ?_
        refine k_nc ?_
        refine k_t rfl ?_
        refine k_skip ?_
        refine c_norm ?_
        refine k_seq ?_
        refine k_b ?_
        refine k_seq ?_
        refine k_q mixed (by kernel_rfl) H ?_
        refine q_run rfl rfl (fun _ H => r_fa0 rfl fo40_0) ?_
        refine q_run rfl rfl (fun _ H => r_lo H 0 rfl rfl rfl ag22) ?_
        refine q_run rfl rfl (fun _ H => r_mv (v := .int _ _) rfl) ?_
        refine q_run rfl rfl (fun _ H => r_ix1o (i := k) rfl rfl (by omega) (by omega) Try.underlying22 sz3) ?_
        refine q_run rfl rfl (fun _ H => r_lr H rfl hcell (by simp) ag3) ?_
        refine q_run rfl rfl (fun _ H => r_lssT rfl rfl (by omega)) ?_
        refine q_run rfl rfl (fun _ H => r_mv (v := .bool _) rfl) ?_
        refine q_off rfl (g_off 66 (by kernel_rfl) rfl rfl) ?_
        refine q_off rfl (g_off 66 (by kernel_rfl) rfl rfl) ?_
        refine q_off rfl (g_off 66 (by kernel_rfl) rfl rfl) ?_
        refine q_off rfl (g_off 66 (by kernel_rfl) rfl rfl) ?_
        refine q_off rfl (g_off 66 (by kernel_rfl) rfl rfl) ?_
        refine q_off rfl (g_off 66 (by kernel_rfl) rfl rfl) ?_
        refine q_off rfl (g_off 66 (by kernel_rfl) rfl rfl) ?_
        refine q_off rfl (g_off 66 (by kernel_rfl) rfl rfl) ?_
        refine q_off rfl (g_off 66 (by kernel_rfl) rfl rfl) ?_
        refine q_run rfl rfl (fun _ H => r_pkT (v := .bool _) rfl rfl) ?_
        refine q_nil ?_
        intro _ H'; clear H; have H := H'; clear H'
        refine c_norm ?_
        refine k_t rfl ?_
        refine k_sg ?_
        refine s_run rfl rfl (rab rfl) ?_
        refine k_nc ?_
        refine k_ret ?_
        refine b_ret ?_
        refine c_ret ?_
        refine c_ret ?_
        refine b_ret ?_
        refine b_ret ?_
        refine c_ret ?_
        refine c_ret ?_
        refine b_ret ?_
        refine c_ret ?_
        refine fin1r (v := .bool _) rfl rfl ?_
        exact ⟨rfl, H.only⟩
       ·refine k_seq ?_
        refine k_sg ?_
        refine s_run rfl rfl (rmi rfl) ?_
        refine s_run rfl rfl (r_fa0 rfl fo40_0) ?_
        refine s_run rfl rfl (r_lo H 0 rfl rfl rfl ag22) ?_
        refine s_run rfl rfl (r_len rfl Try.underlying22) ?_
        refine s_run rfl rfl (r_lssT rfl rfl (by omega)) ?_
        refine k_nc ?_
        refine k_t rfl ?_
        refine k_skip ?_
        refine c_norm ?_
        refine k_seq ?_
        refine k_b ?_
        refine k_seq ?_
        refine k_q mixed (by kernel_rfl) H ?_
        refine q_run rfl rfl (fun _ H => r_fa0 rfl fo40_0) ?_
        refine q_run rfl rfl (fun _ H => r_lo H 0 rfl rfl rfl ag22) ?_
        refine q_run rfl rfl (fun _ H => r_mv (v := .int _ _) rfl) ?_
        refine q_run rfl rfl (fun _ H => r_ix1o (i := k) rfl rfl (by omega) (by omega) Try.underlying22 sz3) ?_
        refine q_run rfl rfl (fun _ H => r_lr H rfl hcell (by simp) ag3) ?_
        refine q_run rfl rfl (fun _ H => r_lssF rfl rfl (by omega)) ?_
        refine q_run rfl rfl (fun _ H => r_mv (v := .bool _) rfl) ?_
        refine q_run rfl (g_on 66 (by kernel_rfl) rfl) (fun _ H => r_fa0 rfl fo40_0) ?_
        refine q_run rfl (g_on 66 (by kernel_rfl) rfl) (fun _ H => r_lo H 0 rfl rfl rfl ag22) ?_
        refine q_run rfl (g_on 66 (by kernel_rfl) rfl) (fun _ H => r_mv (v := .int _ _) rfl) ?_
        refine q_run rfl (g_on 66 (by kernel_rfl) rfl) (fun _ H => r_ix1o (i := k) rfl rfl (by omega) (by omega) Try.underlying22 sz3) ?_
        refine q_run rfl (g_on 66 (by kernel_rfl) rfl) (fun _ H => r_lr H rfl hcell (by simp) ag3) ?_
        refine q_run rfl (g_on 66 (by kernel_rfl) rfl) (fun _ H => r_fa0 rfl fo30_1) ?_
        refine q_run rfl (g_on 66 (by kernel_rfl) rfl) (fun _ H => r_lo H 1 rfl rfl rfl ag28) ?_
        refine q_run rfl (g_on 66 (by kernel_rfl) rfl) (fun _ H => r_len rfl Try.underlying28) ?_
        refine q_run rfl (g_on 66 (by kernel_rfl) rfl) (fun _ H => r_geqT rfl rfl (by omega)) ?_
        refine q_run rfl rfl (fun _ H => r_pkF (v := .bool _) rfl rfl) ?_
        refine q_nil ?_
        intro _ H'; clear H; have H := H'; clear H'
        refine c_norm ?_
        refine k_t rfl ?_
        refine k_sg ?_
        refine s_run rfl rfl (rab rfl) ?_
        refine k_nc ?_
        refine k_ret ?_
        refine b_ret ?_
        refine c_ret ?_
        refine c_ret ?_
        refine b_ret ?_
        refine b_ret ?_
        refine c_ret ?_
        refine c_ret ?_
        refine b_ret ?_
        refine c_ret ?_
        refine fin1r (v := .bool _) rfl rfl ?_
        exact ⟨rfl, H.only⟩
     ·obtain rfl : k = x.n := by omega
      refine k_seq ?_
      refine k_sg ?_
      refine s_run rfl rfl (rmi rfl) ?_
      refine s_run rfl rfl (r_fa0 rfl fo40_0) ?_
      refine s_run rfl rfl (r_lo H 0 rfl rfl rfl ag22) ?_
      refine s_run rfl rfl (r_len rfl Try.underlying22) ?_
      refine s_run rfl rfl (r_lssF rfl rfl (by omega)) ?_
      refine k_nc ?_
      refine k_f rfl ?_
      refine k_exit ?_
      refine c_exit ?_
      refine c_exit ?_
      refine b_hit ?_
      refine b_norm ?_
      refine c_norm ?_
      refine k_rg ?_
      refine s_run rfl rfl (rmi rfl) ?_
      refine s_run rfl rfl (r_add rfl rfl (wI (by omega))) ?_
      refine s_run rfl rfl (rai rfl) ?_
      refine k_nil ?_
      refine c_round ?_
      refine ⟨_, _, ?_, rfl, i + 1, by omega, rfl, fun j y hj hy => ?_, rfl, rfl, H.drop⟩
      ·omega
      ·by_cases e : j = i
       ·subst e; rw [hx] at hy; injection hy with hy; subst hy
        refine ⟨h63, hd, fun p hp => ?_⟩
        obtain ⟨j, hj, rfl⟩ := List.mem_iff_getElem.1 hp
        exact hall3 j _ (by omega) (List.getElem?_eq_getElem hj)
       ·exact hall2 j y (by omega) hy
    ·rw [hbad2 x hxm (fun h => hd h.2.1)]
     refine k_seq ?_
     refine k_sg ?_
     refine s_run rfl rfl (rmi rfl) ?_
     refine s_run rfl rfl (r_fa0 rfl fo30_1) ?_
     refine s_run rfl rfl (r_lo H 0 rfl rfl rfl ag28) ?_
     refine s_run rfl rfl (r_len rfl Try.underlying28) ?_
     refine s_run rfl rfl (r_lssT rfl rfl (by omega)) ?_
     refine k_nc ?_
     refine k_t rfl ?_
     refine k_skip ?_
     refine c_norm ?_
     refine k_seq ?_
     refine k_b ?_
     refine k_sg ?_
     refine s_run rfl rfl (r_fa0 rfl fo30_1) ?_
     refine s_run rfl rfl (r_lo H 0 rfl rfl rfl ag28) ?_
     refine s_run rfl rfl (rmi rfl) ?_
     refine s_run rfl rfl (r_ix (i := i) rfl rfl (by omega) (by omega) Try.underlying28 sz40) ?_
     refine s_run rfl rfl (r_lA (enc := fun v : Value => v) (zs := [.slice x.A x.n x.c, .slice x.B x.m x.d]) (hrx.later H.only (by simp)) rfl rfl ag40 sz40) ?_
     refine s_al H rfl inf40 ?_
     intro p5 _ H'; clear H; have H := H'; clear H'
     refine s_sw H 0 rfl rfl rfl rfl rfl rfl rfl sz40 ?_
     clear H; intro _ H; simp only [jA, jB, jC, jD, jE, jF, jG, jH, jI, jJ, jK, Nat.reduceAdd] at H
     refine k_nc ?_
     refine k_seq ?_
     refine k_sg ?_
     refine s_run rfl rfl (r_fa0 rfl fo40_0) ?_
     refine s_run rfl rfl (r_lo H 0 rfl rfl rfl ag22) ?_
     refine s_run rfl rfl (r_len rfl Try.underlying22) ?_
     refine s_run rfl rfl (r_gtrF rfl rfl (by omega)) ?_
     refine s_run rfl rfl (rmb rfl) ?_
     refine s_run rfl (g_on 47 (by kernel_rfl) rfl) (r_fa0 rfl fo40_1) ?_
     refine s_run rfl (g_on 47 (by kernel_rfl) rfl) (r_lo H 0 rfl rfl rfl ag37) ?_
     refine s_run rfl (g_on 47 (by kernel_rfl) rfl) (r_len rfl Try.underlying37) ?_
     refine s_run rfl (g_on 47 (by kernel_rfl) rfl) (r_gtrT rfl rfl (by omega)) ?_
     refine s_run rfl rfl (r_pkF (v := .bool _) rfl rfl) ?_
     refine k_nc ?_
     refine k_t rfl ?_
     refine k_sg ?_
     refine s_run rfl rfl (rab rfl) ?_
     refine k_nc ?_
     refine k_ret ?_
     refine c_ret ?_
     refine b_ret ?_
     refine c_ret ?_
     refine c_ret ?_
     refine b_ret ?_
     refine c_ret ?_
     refine fin1r (v := .bool _) rfl rfl ?_
     exact ⟨rfl, H.only⟩
   ·rw [hbad2 x hxm (fun h => h63 h.1)]
    refine k_seq ?_
    refine k_sg ?_
    refine s_run rfl rfl (rmi rfl) ?_
    refine s_run rfl rfl (r_fa0 rfl fo30_1) ?_
    refine s_run rfl rfl (r_lo H 0 rfl rfl rfl ag28) ?_
    refine s_run rfl rfl (r_len rfl Try.underlying28) ?_
    refine s_run rfl rfl (r_lssT rfl rfl (by omega)) ?_
    refine k_nc ?_
    refine k_t rfl ?_
    refine k_skip ?_
    refine c_norm ?_
    refine k_seq ?_
    refine k_b ?_
    refine k_sg ?_
    refine s_run rfl rfl (r_fa0 rfl fo30_1) ?_
    refine s_run rfl rfl (r_lo H 0 rfl rfl rfl ag28) ?_
    refine s_run rfl rfl (rmi rfl) ?_
    refine s_run rfl rfl (r_ix (i := i) rfl rfl (by omega) (by omega) Try.underlying28 sz40) ?_
    refine s_run rfl rfl (r_lA (enc := fun v : Value => v) (zs := [.slice x.A x.n x.c, .slice x.B x.m x.d]) (hrx.later H.only (by simp)) rfl rfl ag40 sz40) ?_
    refine s_al H rfl inf40 ?_
    intro p5 _ H'; clear H; have H := H'; clear H'
    refine s_sw H 0 rfl rfl rfl rfl rfl rfl rfl sz40 ?_
    clear H; intro _ H; simp only [jA, jB, jC, jD, jE, jF, jG, jH, jI, jJ, jK, Nat.reduceAdd] at H
    refine k_nc ?_
    refine k_seq ?_
    refine k_sg ?_
    refine s_run rfl rfl (r_fa0 rfl fo40_0) ?_
    refine s_run rfl rfl (r_lo H 0 rfl rfl rfl ag22) ?_
    refine s_run rfl rfl (r_len rfl Try.underlying22) ?_
    refine s_run rfl rfl (r_gtrT rfl rfl (by omega)) ?_
    refine s_run rfl rfl (rmb rfl) ?_
    refine s_off rfl (g_off 47 (by kernel_rfl) rfl rfl) ?_
    refine s_off rfl (g_off 47 (by kernel_rfl) rfl rfl) ?_
    refine s_off rfl (g_off 47 (by kernel_rfl) rfl rfl) ?_
    refine s_off rfl (g_off 47 (by kernel_rfl) rfl rfl) ?_
    refine s_run rfl rfl (r_pkT (v := .bool _) rfl rfl) ?_
    refine k_nc ?_
    refine k_t rfl ?_
    refine k_sg ?_
    refine s_run rfl rfl (rab rfl) ?_
    refine k_nc ?_
    refine k_ret ?_
    refine c_ret ?_
    refine b_ret ?_
    refine c_ret ?_
    refine c_ret ?_
    refine b_ret ?_
    refine c_ret ?_
    refine fin1r (v := .bool _) rfl rfl ?_
    exact ⟨rfl, H.only⟩
  ·obtain rfl : i = g.m := by omega
   rw [hgood hall hall2]
   refine k_seq ?_
   refine k_sg ?_
   refine s_run rfl rfl (rmi rfl) ?_
   refine s_run rfl rfl (r_fa0 rfl fo30_1) ?_
   refine s_run rfl rfl (r_lo H 0 rfl rfl rfl ag28) ?_
   refine s_run rfl rfl (r_len rfl Try.underlying28) ?_
   refine s_run rfl rfl (r_lssF rfl rfl (by omega)) ?_
   refine k_nc ?_
   refine k_f rfl ?_
   refine k_exit ?_
   refine c_exit ?_
   refine c_exit ?_
   refine b_hit ?_
   refine c_norm ?_
   refine k_sg ?_
   refine s_run rfl rfl (rab rfl) ?_
   refine k_nc ?_
   refine k_ret ?_
   refine fin1r (v := .bool _) rfl rfl ?_
   exact ⟨rfl, H.only⟩
end Go.Proofs.Ytdgmlfpikgjnlaa
end

section
namespace Go.Proofs.Ytdgmlfpikgjnlaa.Gr
/-- how many pointers the nodes have that have not come -/
def rest (pt : Int → List Int) (m : Nat) (out : List Int) : Nat := ((List.range m).map fun x : Nat => if (x : Int) ∈ out then 0 else (pt x).length).sum
end Go.Proofs.Ytdgmlfpikgjnlaa.Gr
end

section
namespace Go.Proofs.Ytdgmlfpikgjnlaa
open Go.RowKit
set_option maxRecDepth 100000
set_option maxHeartbeats 2000000
end Go.Proofs.Ytdgmlfpikgjnlaa
end

section
namespace Go.Proofs.Ytdgmlfpikgjnlaa
open Go.RowKit
set_option maxRecDepth 100000
set_option maxHeartbeats 4000000
def nodeP (x : NodeS) : Ent := grp [ownN 1 (.slice x.A x.n x.c) x.n (x.ps.map (Value.int .i64)) 3]
end Go.Proofs.Ytdgmlfpikgjnlaa
end
