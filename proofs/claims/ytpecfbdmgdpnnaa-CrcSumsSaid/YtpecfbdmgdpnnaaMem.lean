/- Words for memory: a slice that reads as a list of values. -/
import Derived.Test.YtpecfbdmgdpnnaaCom
namespace Go.Proofs.Ytpecfbdmgdpnnaa
set_option linter.unusedVariables false
open Go.RowKit
/-- a slice value over A holds the cells xs (m of them), below block B -/
def RowAt (w : World) (B : Nat) (A : Option Addr) (m : Nat) (xs : List Value) : Prop :=
  xs.length = m ∧ (0 < m → ∃ b off, A = some ⟨b, off, none⟩ ∧ b < B ∧ ∀ j u, xs[j]? = some u → w.cell? ⟨b, off + j, none⟩ = some u)
theorem cell_lt {w : World} {p : Addr} {u : Value} (h : w.cell? p = some u) : p.block < w.heap.size := by
  rcases Nat.lt_or_ge p.block w.heap.size with h1 | h1
  · exact h1
  · exfalso
    simp [World.cell?, Array.getElem?_eq_none h1] at h
theorem RowAt.len {w : World} {B m : Nat} {A : Option Addr} {xs : List Value} (h : RowAt w B A m xs) : xs.length = m := h.1
theorem RowAt.at_ {w : World} {B m : Nat} {A : Option Addr} {xs : List Value} (h : RowAt w B A m xs) {j : Nat} (hj : j < m) :
    ∃ b off u, A = some ⟨b, off, none⟩ ∧ b < B ∧ xs[j]? = some u ∧ w.cell? ⟨b, off + j, none⟩ = some u := by
  obtain ⟨b, off, e, hb, hc⟩ := h.2 (by omega)
  have hl : j < xs.length := by rw [h.1]; exact hj
  exact ⟨b, off, xs[j], e, hb, List.getElem?_eq_getElem hl, hc j _ (List.getElem?_eq_getElem hl)⟩
theorem RowAt.keep {w w' : World} {B m : Nat} {A : Option Addr} {xs : List Value} (h : RowAt w B A m xs) (hk : ∀ p : Addr, p.block < B → w'.cell? p = w.cell? p) : RowAt w' B A m xs :=
  ⟨h.1, fun hm => by
    obtain ⟨b, off, e, hb, hc⟩ := h.2 hm
    exact ⟨b, off, e, hb, fun j u hu => (hk _ hb).trans (hc j u hu)⟩⟩
theorem RowAt.more {w : World} {B B' m : Nat} {A : Option Addr} {xs : List Value} (h : RowAt w B A m xs) (hB : B ≤ B') : RowAt w B' A m xs :=
  ⟨h.1, fun hm => by
    obtain ⟨b, off, e, hb, hc⟩ := h.2 hm
    exact ⟨b, off, e, by omega, hc⟩⟩
theorem RowAt.below {w w' : World} {B m : Nat} {A : Option Addr} {xs : List Value} (h : RowAt w B A m xs) (hb : Below B w w') : RowAt w' B A m xs := h.keep fun _ hp => hb.cell hp
theorem RowAt.alloc {w : World} {B m : Nat} {A : Option Addr} {xs : List Value} (h : RowAt w B A m xs) (hB : B ≤ w.heap.size) (o : Obj) : RowAt (w.alloc o) B A m xs :=
  h.keep fun p hp => World.cell?_alloc_lt w o p (by omega)
theorem RowAt.drewN {w : World} {B m : Nat} {A : Option Addr} {xs : List Value} (h : RowAt w B A m xs) (n : Nat) : RowAt (w.drewN n) B A m xs := h
theorem RowAt.nil {w : World} {B : Nat} {A : Option Addr} : RowAt w B A 0 [] := ⟨rfl, fun h => absurd h (by omega)⟩
theorem RowAt.of_block {w : World} {g m : Nat} {cs : Array Value} {t : TypeId} (h : w.heap[g]? = some (.cells cs t (0, 0))) (hg : g < w.heap.size) (hm : cs.size = m) : RowAt w w.heap.size (some ⟨g, 0, none⟩) m cs.toList :=
  ⟨by simpa using hm, fun _ => ⟨g, 0, rfl, hg, fun j u hu => by
    rw [Joins.cell_of_block h]; simpa using hu⟩⟩
/-- the integers of an argument's slice -/
def Ints (k : IntKind) (zs : List Int) : Prop := ∀ z ∈ zs, (Lit.int k z).wf = true
theorem row_of_arg {k : IntKind} {w : World} {a : Option Addr} {len cap : Nat} {zs : List Int} (h : IsRow k w a len cap zs) :
    ∃ xs : List Int, RowAt w w.heap.size a len (xs.map (Value.int k)) ∧ Ints k xs ∧ xs.length = len ∧ len ≤ cap ∧ cap ≤ maxLen := by
  rcases h with ⟨rfl, rfl, rfl, rfl⟩ | ⟨x, rfl, hl, hm, hz, hcell, hwf⟩
  · exact ⟨[], RowAt.nil, by simp [Ints], rfl, by omega, by decide⟩
  · refine ⟨zs.take len, ⟨by simp; omega, fun h0 => ?_⟩, fun z hz => hwf z (List.mem_of_mem_take hz), by simp; omega, hl, hm⟩
    obtain ⟨b, off, spot⟩ := x
    have hc := hcell 0 (by omega)
    have hspot : spot = none := by simpa [Addr.add] using World.cell?_spot hc
    subst hspot
    have hlt := cell_lt hc
    refine ⟨b, off, rfl, by simpa [Addr.add] using hlt, fun j u hu => ?_⟩
    rw [List.getElem?_map] at hu
    cases hj : (zs.take len)[j]? with
    | none => rw [hj] at hu; simp at hu
    | some z =>
      rw [hj] at hu
      have hjl : j < len := by
        have := (List.getElem?_eq_some_iff.1 hj).1
        simp at this; omega
      rw [List.getElem?_take_of_lt hjl] at hj
      have hc2 := hcell j (by omega)
      have e : zs.getD j 0 = z := by simp [List.getD, hj]
      rw [e] at hc2
      have ea : (⟨b, off, none⟩ : Addr).add j = ⟨b, off + j, none⟩ := by
        unfold Addr.add; split
        · subst_vars; rfl
        · rfl
      rw [ea] at hc2
      simp at hu
      rw [hc2, ← hu]
theorem RowAt.int {k : IntKind} {w : World} {B m : Nat} {A : Option Addr} {xs : List Int} (h : RowAt w B A m (xs.map (Value.int k))) (hi : Ints k xs) {j : Nat} (hj : j < m) :
    ∃ b off z, A = some ⟨b, off, none⟩ ∧ b < B ∧ xs[j]? = some z ∧ (Lit.int k z).wf = true ∧ w.cell? ⟨b, off + j, none⟩ = some (.int k z) := by
  obtain ⟨b, off, u, e, hb, hx, hc⟩ := h.at_ hj
  rw [List.getElem?_map] at hx
  cases hz : xs[j]? with
  | none => rw [hz] at hx; simp at hx
  | some z =>
    rw [hz] at hx
    simp at hx
    exact ⟨b, off, z, e, hb, rfl, hi z (List.mem_of_getElem? hz), by rw [hc, hx]⟩
theorem take_succ_of {α : Type} {l : List α} {j : Nat} {z : α} (h : l[j]? = some z) : l.take (j + 1) = l.take j ++ [z] := by
  rw [List.take_add_one, h]; rfl
end Go.Proofs.Ytpecfbdmgdpnnaa
