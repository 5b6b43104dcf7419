/- NvmStops. -/
import Derived.Test.YtmekhdclnhhhbaaLw7
namespace Go.Proofs.Ytmekhdclnhhhbaa
open Go.RowKit
set_option linter.unusedSimpArgs false
set_option linter.unusedVariables false
/-- a device that is armed with n: its steps and its fuse are n -/
structure Nv.Armed (n : Int) (d : Nv.D) : Prop where
  ar : d.armed = true
  f0 : 0 ≤ d.fuse
  s0 : 0 ≤ d.steps
  su : d.steps + d.fuse = n
  de : d.dead = true → d.fuse = 0
namespace Nv
theorem Armed.stepped {n : Int} {d : D} (h : Armed n d) (hn : n ≤ 255) (hs : ¬ stops d = true) : Armed n (stepped d) := by
  have f0 := h.f0
  have s0 := h.s0
  have su := h.su
  have hd : d.dead = false := by
    cases hd : d.dead
    · rfl
    · exact absurd (by simp [stops, hd]) hs
  have hf : d.fuse ≠ 0 := fun hf => hs (by simp [stops, h.ar, hf])
  refine ⟨h.ar, ?_, ?_, ?_, fun hdd => ?_⟩
  · show 0 ≤ IntKind.i64.wrap (d.fuse - 1); rw [wI (by omega)]; omega
  · show 0 ≤ IntKind.i64.wrap (d.steps + 1); rw [wI (by omega)]; omega
  · show IntKind.i64.wrap (d.steps + 1) + IntKind.i64.wrap (d.fuse - 1) = n; rw [wI (by omega), wI (by omega)]; omega
  · have : d.dead = true := hdd
    rw [hd] at this; cases this
theorem Armed.killed {n : Int} {d : D} (h : Armed n d) (hs : stops d = true) : Armed n (killed d) :=
  ⟨h.ar, h.f0, h.s0, h.su, fun _ => by
    by_cases hd : d.dead = true
    · exact h.de hd
    · have := hs
      simp [stops, h.ar, hd] at this
      exact this⟩
theorem Armed.put {n : Int} {d : D} (h : Armed n d) (a : Nat) (v : Int) : Armed n (put d a v) := ⟨h.ar, h.f0, h.s0, h.su, h.de⟩
theorem Armed.flushed {n : Int} {d : D} (h : Armed n d) (i : Nat) : Armed n (flushed d i) := ⟨h.ar, h.f0, h.s0, h.su, h.de⟩
theorem Armed.evicted {n : Int} {d : D} (h : Armed n d) (i : Nat) : Armed n (evicted d i) := ⟨h.ar, h.f0, h.s0, h.su, h.de⟩
theorem Armed.fenceLine {n : Int} {d : D} (h : Armed n d) (i : Nat) : Armed n (fenceLine d i) := by
  unfold Nv.fenceLine
  split
  · exact ⟨h.ar, h.f0, h.s0, h.su, h.de⟩
  · exact h
theorem Armed.fenceTo {n : Int} {d : D} (h : Armed n d) : ∀ k, Armed n (fenceTo d k)
  | 0 => h
  | k + 1 => (Armed.fenceTo h k).fenceLine k
theorem Armed.store {n : Int} {d : D} (h : Armed n d) (hn : n ≤ 255) (m : Nat) (a v : Int) : Armed n (store d m a v).1 := by
  unfold Nv.store
  split
  · split
    · exact h.killed ‹_›
    · exact (h.stepped hn ‹_›).put _ _
  · exact h
theorem Armed.flush {n : Int} {d : D} (h : Armed n d) (hn : n ≤ 255) (m : Nat) (a : Int) : Armed n (flush d m a).1 := by
  unfold Nv.flush
  split
  · split
    · exact h.killed ‹_›
    · show Armed n (if _ then _ else _)
      split
      · exact (h.stepped hn ‹_›).flushed _
      · exact h.stepped hn ‹_›
  · exact h
theorem Armed.fence {n : Int} {d : D} (h : Armed n d) (hn : n ≤ 255) (m : Nat) : Armed n (fence d m).1 := by
  unfold Nv.fence
  split
  · exact h.killed ‹_›
  · exact (h.stepped hn ‹_›).fenceTo _
theorem Armed.evict {n : Int} {d : D} (h : Armed n d) (m : Nat) (a : Int) : Armed n (evict d m a).1 := by
  unfold Nv.evict
  split
  · split
    · exact h
    · exact h.evicted _
  · exact h
theorem Armed.flushAll {n : Int} (hn : n ≤ 255) (m : Nat) : ∀ (k i : Nat) (d : D), Armed n d → Armed n (flushAll d m i k).1
  | 0, _, _, h => h
  | k + 1, i, d, h => by
    unfold Nv.flushAll
    split
    · exact Armed.flushAll hn m k (i + 1) _ (h.flush hn m _)
    · exact h.flush hn m _
theorem Armed.persist {n : Int} {d : D} (h : Armed n d) (hn : n ≤ 255) (m : Nat) (a c : Int) : Armed n (persist d m a c).1 := by
  unfold Nv.persist
  split
  · exact h
  · split
    · exact h.fence hn m
    · split
      · exact (Armed.flushAll hn m _ _ _ h).fence hn m
      · exact Armed.flushAll hn m _ _ _ h
theorem Armed.load {n : Int} (h0 : 0 ≤ n) (ws : List Int) (m : Nat) : Armed n (arm (load ws m) n) := ⟨by simp [arm, h0], h0, by show (0 : Int) ≤ 0; omega, by show 0 + n = n; omega, fun h => by cases h⟩
end Nv
theorem lDs (g : Geo) (d d2 : Nv.D) (s : RefS) (m m2 : Nat) (N k a n v : Int) (A : Option Addr) (nc cc : Nat) (w : World) (hk : k < 5) (hE : Ents (devL g d) w) (hr : RefOk w (ids (devL g d)) s d2 m2) (ho : Nv.Ok d m) (hg : GOk g m) (hm : m ≤ 60000) (hm2 : m2 ≤ 60000) (hA : Nv.Armed N d) (hN : N ≤ 255) :
    Calls Try.prog 33 [ptr g.p, .agg (refCells s d2 m2).toArray, opV k a n v A nc cc].toArray w (fun e w' => ∃ d', (∃ V b, e = .returned (.tuple #[ptr g.p, .agg V, .bool b])) ∧ Heap w (ids (devL g d)) (devL g d') w' ∧ Nv.Armed N d' ∧ Nv.Ok d' m) := by
  by_cases h0 : k = 0
  · exact (lDs0 g d d2 s m m2 k a n v A nc cc w h0 hE hr ho hg hm hm2).mono fun e w' ⟨V, b, he, H⟩ => ⟨_, ⟨V, b, he⟩, H, hA.store hN m a v, ho.store a v⟩
  by_cases h1 : k = 1
  · exact (lDs1 g d d2 s m m2 k a n v A nc cc w h1 hE hr ho hg hm hm2).mono fun e w' ⟨V, b, he, H⟩ => ⟨_, ⟨V, b, he⟩, H, hA.flush hN m a, ho.flush a⟩
  by_cases h2 : k = 2
  · exact (lDs2 g d d2 s m m2 k a n v A nc cc w h2 hE hr ho hg hm hm2).mono fun e w' ⟨V, b, he, H⟩ => ⟨_, ⟨V, b, he⟩, H, hA.fence hN m, ho.fence⟩
  by_cases h3 : k = 3
  · exact (lDs3 g d d2 s m m2 k a n v A nc cc w h3 hE hr ho hg hm hm2).mono fun e w' ⟨V, b, he, H⟩ => ⟨_, ⟨V, b, he⟩, H, hA.evict m a, ho.evict a⟩
  by_cases h4 : k = 4
  · exact (lDs4 g d d2 s m m2 k a n v A nc cc w h4 hE hr ho hg hm hm2).mono fun e w' ⟨V, b, he, H⟩ => ⟨_, ⟨V, b, he⟩, H, hA.persist hN m a n, ho.persist a n⟩
  · exact (lDs7 g d d2 s m m2 k a n v A nc cc w ⟨h0, h1, h2, h3, h4, by omega, by omega⟩ hE hr ho hg hm hm2).mono fun e w' ⟨V, b, he, H⟩ => ⟨_, ⟨V, b, he⟩, H, hA, ho⟩
end Go.Proofs.Ytmekhdclnhhhbaa
