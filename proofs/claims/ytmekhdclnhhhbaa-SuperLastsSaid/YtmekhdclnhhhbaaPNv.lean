/- Plain: a device as its memory holds it. -/
import Derived.Test.YtmekhdclnhhhbaaFx
namespace Go.Proofs.Ytmekhdclnhhhbaa.Nv
set_option linter.unusedSimpArgs false
set_option linter.unusedVariables false
/-- a device: its words as they last, as they are in the cache, as they were flushed (8 a line); which lines are dirty, which pending; steps done; the fuse -/
structure D where
  last : List Int
  cache : List Int
  fl : List Int
  dirty : List Bool
  pend : List Bool
  steps : Int
  fuse : Int
  armed : Bool
  dead : Bool
/-- all rows have whole lines -/
structure Ok (d : D) (m : Nat) : Prop where
  hl : d.last.length = 8 * m
  hc : d.cache.length = 8 * m
  hf : d.fl.length = 8 * m
  hd : d.dirty.length = m
  hp : d.pend.length = m
def part (l : List Int) (i : Nat) : List Int := (l.drop (8 * i)).take 8
def setPart (l : List Int) (i : Nat) (p : List Int) : List Int := l.take (8 * i) ++ p ++ l.drop (8 * i + 8)
def load (ws : List Int) (m : Nat) : D := ⟨ws, ws, List.replicate ws.length 0, List.replicate m false, List.replicate m false, 0, 0, false, false⟩
def stops (d : D) : Bool := d.dead || (d.armed && d.fuse == 0)
def stepped (d : D) : D := { d with fuse := IntKind.i64.wrap (d.fuse - 1), steps := IntKind.i64.wrap (d.steps + 1) }
def killed (d : D) : D := { d with dead := true }
def put (d : D) (a : Nat) (v : Int) : D := { d with cache := d.cache.set a v, dirty := d.dirty.set (a / 8) true }
def flushed (d : D) (i : Nat) : D := { d with pend := d.pend.set i true, fl := setPart d.fl i (part d.cache i) }
def same (a b : List Int) : Bool := decide (a = b)
def fenceLine (d : D) (i : Nat) : D :=
  if d.pend.getD i false = true then { d with last := setPart d.last i (part d.fl i), pend := d.pend.set i false, dirty := d.dirty.set i (!same (part d.fl i) (part d.cache i)) } else d
def fenceTo (d : D) : Nat → D
  | 0 => d
  | k + 1 => fenceLine (fenceTo d k) k
def evicted (d : D) (i : Nat) : D := { d with last := setPart d.last i (part d.cache i), dirty := d.dirty.set i false, pend := d.pend.set i false }
def store (d : D) (m : Nat) (a v : Int) : D × Int :=
  if 0 ≤ a ∧ a < 8 * (m : Int) then (if stops d = true then (killed d, 3) else (put (stepped d) a.toNat v, 0)) else (d, 2)
def flush (d : D) (m : Nat) (l : Int) : D × Int :=
  if 0 ≤ l ∧ l < (m : Int) then (if stops d = true then (killed d, 3) else (if d.dirty.getD l.toNat false = true then flushed (stepped d) l.toNat else stepped d, 0)) else (d, 2)
def fence (d : D) (m : Nat) : D × Int := if stops d = true then (killed d, 3) else (fenceTo (stepped d) m, 0)
def evict (d : D) (m : Nat) (l : Int) : D × Int := if 0 ≤ l ∧ l < (m : Int) then (if d.dead = true then (d, 3) else (evicted d l.toNat, 0)) else (d, 2)
def get (l : List Int) (a : Int) : Int := if 0 ≤ a ∧ a < (l.length : Int) then l.getD a.toNat 0 else 0
def arm (d : D) (n : Int) : D := { d with fuse := n, armed := decide (0 ≤ n) }
/-- the lines up to k that are dirty, rising -/
def dirtyTo (l : List Bool) : Nat → List Int
  | 0 => []
  | k + 1 => if l.getD k false = true then dirtyTo l k ++ [(k : Int)] else dirtyTo l k
def crashOne (d : D) (out : List Int) (line : Nat) (c : Int) : List Int :=
  if c % 3 = 1 then (if d.pend.getD line false = true then setPart out line (part d.fl line) else out)
  else if c % 3 = 2 then setPart out line (part d.cache line) else out
def crashTo (d : D) (ls : List Int) (cs : List Int) : Nat → List Int
  | 0 => d.last
  | k + 1 => if k < ls.length ∧ k < cs.length then crashOne d (crashTo d ls cs k) (ls.getD k 0).toNat (cs.getD k 0) else crashTo d ls cs k
/-- flushes from line i on, m of them; the first that falls ends it -/
def flushAll (d : D) (m : Nat) (i : Nat) : Nat → D × Int
  | 0 => (d, 0)
  | k + 1 => if (flush d m (i : Int)).2 = 0 then flushAll (flush d m (i : Int)).1 m (i + 1) k else flush d m (i : Int)
def persist (d : D) (m : Nat) (a n : Int) : D × Int :=
  if a < 0 ∨ n < 0 ∨ 8 * (m : Int) < a ∨ 8 * (m : Int) - a < n then (d, 2)
  else if n = 0 then fence d m
  else
    if (flushAll d m (a / 8).toNat (((a + n - 1) / 8).toNat + 1 - (a / 8).toNat)).2 = 0 then fence (flushAll d m (a / 8).toNat (((a + n - 1) / 8).toNat + 1 - (a / 8).toNat)).1 m
    else flushAll d m (a / 8).toNat (((a + n - 1) / 8).toNat + 1 - (a / 8).toNat)
theorem length_setPart {l p : List Int} {i : Nat} (h : 8 * i + 8 ≤ l.length) (hp : p.length = 8) : (setPart l i p).length = l.length := by simp [setPart]; omega
theorem length_part {l : List Int} {i : Nat} (h : 8 * i + 8 ≤ l.length) : (part l i).length = 8 := by simp [part]; omega
theorem Ok.killed {d : D} {m : Nat} (h : Ok d m) : Ok (killed d) m := ⟨h.hl, h.hc, h.hf, h.hd, h.hp⟩
theorem Ok.stepped {d : D} {m : Nat} (h : Ok d m) : Ok (stepped d) m := ⟨h.hl, h.hc, h.hf, h.hd, h.hp⟩
theorem Ok.put {d : D} {m : Nat} (h : Ok d m) (a : Nat) (v : Int) : Ok (put d a v) m := ⟨h.hl, by simp [Nv.put, h.hc], h.hf, by simp [Nv.put, h.hd], h.hp⟩
theorem Ok.flushed {d : D} {m : Nat} (h : Ok d m) {i : Nat} (hi : i < m) : Ok (flushed d i) m :=
  ⟨h.hl, h.hc, by simp only [Nv.flushed]; rw [length_setPart (by rw [h.hf]; omega) (length_part (by rw [h.hc]; omega)), h.hf], h.hd, by simp [Nv.flushed, h.hp]⟩
theorem Ok.evicted {d : D} {m : Nat} (h : Ok d m) {i : Nat} (hi : i < m) : Ok (evicted d i) m :=
  ⟨by simp only [Nv.evicted]; rw [length_setPart (by rw [h.hl]; omega) (length_part (by rw [h.hc]; omega)), h.hl], h.hc, h.hf, by simp [Nv.evicted, h.hd], by simp [Nv.evicted, h.hp]⟩
theorem Ok.fenceLine {d : D} {m : Nat} (h : Ok d m) {i : Nat} (hi : i < m) : Ok (fenceLine d i) m := by
  unfold Nv.fenceLine
  split
  · exact ⟨by simp only; rw [length_setPart (by rw [h.hl]; omega) (length_part (by rw [h.hf]; omega)), h.hl], h.hc, h.hf, by simp [h.hd], by simp [h.hp]⟩
  · exact h
theorem Ok.fenceTo {d : D} {m : Nat} (h : Ok d m) : ∀ k, k ≤ m → Ok (fenceTo d k) m
  | 0, _ => h
  | k + 1, hk => (Ok.fenceTo h k (by omega)).fenceLine (by omega)
theorem Ok.store {d : D} {m : Nat} (h : Ok d m) (a v : Int) : Ok (store d m a v).1 m := by
  unfold Nv.store; split
  · split
    · exact h.killed
    · exact h.stepped.put _ _
  · exact h
theorem Ok.flush {d : D} {m : Nat} (h : Ok d m) (l : Int) : Ok (flush d m l).1 m := by
  unfold Nv.flush; split
  · split
    · exact h.killed
    · split
      · exact h.stepped.flushed (by omega)
      · exact h.stepped
  · exact h
theorem Ok.fence {d : D} {m : Nat} (h : Ok d m) : Ok (fence d m).1 m := by
  unfold Nv.fence; split
  · exact h.killed
  · exact h.stepped.fenceTo m (Nat.le_refl _)
theorem Ok.evict {d : D} {m : Nat} (h : Ok d m) (l : Int) : Ok (evict d m l).1 m := by
  unfold Nv.evict; split
  · split
    · exact h
    · exact h.evicted (by omega)
  · exact h
theorem Ok.flushAll {m : Nat} : ∀ (k i : Nat) (d : D), Ok d m → Ok (flushAll d m i k).1 m
  | 0, _, _, h => h
  | k + 1, i, d, h => by
    unfold Nv.flushAll; split
    · exact Ok.flushAll k _ _ (h.flush _)
    · exact h.flush _
theorem Ok.persist {d : D} {m : Nat} (h : Ok d m) (a n : Int) : Ok (persist d m a n).1 m := by
  unfold Nv.persist; split
  · exact h
  · split
    · exact h.fence
    · split
      · exact (Ok.flushAll _ _ _ h).fence
      · exact Ok.flushAll _ _ _ h
theorem crashTo_succ (d : D) (ls cs : List Int) (k : Nat) : crashTo d ls cs (k + 1) = if k < ls.length ∧ k < cs.length then crashOne d (crashTo d ls cs k) (ls.getD k 0).toNat (cs.getD k 0) else crashTo d ls cs k := rfl
theorem crashTo_stop (d : D) (ls cs : List Int) (j : Nat) (h : ls.length ≤ j ∨ cs.length ≤ j) : ∀ q, crashTo d ls cs (j + q) = crashTo d ls cs j
  | 0 => rfl
  | q + 1 => by rw [← Nat.add_assoc, crashTo, if_neg (by omega)]; exact crashTo_stop d ls cs j h q
theorem dirtyTo_mem (l : List Bool) : ∀ (k : Nat) (j : Nat) (z : Int), (dirtyTo l k)[j]? = some z → ∃ i : Nat, z = (i : Int) ∧ i < k ∧ l.getD i false = true
  | 0, j, z, h => by simp [dirtyTo] at h
  | k + 1, j, z, h => by
    unfold dirtyTo at h
    split at h
    · rename_i hk
      rw [List.getElem?_append] at h
      split at h
      · obtain ⟨i, e, hi, hd⟩ := dirtyTo_mem l k j z h
        exact ⟨i, e, by omega, hd⟩
      · rw [List.getElem?_singleton] at h
        split at h
        · injection h with h; exact ⟨k, h.symm, by omega, hk⟩
        · cases h
    · obtain ⟨i, e, hi, hd⟩ := dirtyTo_mem l k j z h
      exact ⟨i, e, by omega, hd⟩
theorem length_crashOne {d : D} {m : Nat} (ho : Ok d m) {out : List Int} (h : out.length = 8 * m) {i : Nat} (hi : i < m) (c : Int) : (crashOne d out i c).length = 8 * m := by
  unfold crashOne
  have h1 := ho.hf; have h2 := ho.hc
  split
  · split
    · rw [length_setPart (by omega) (length_part (by omega)), h]
    · exact h
  · split
    · rw [length_setPart (by omega) (length_part (by omega)), h]
    · exact h
theorem same_comm (a b : List Int) : same a b = same b a := by unfold same; rw [Bool.eq_iff_iff]; simp [eq_comm]
theorem fenceLine_same (d : D) (i : Nat) : (fenceLine d i).fl = d.fl ∧ (fenceLine d i).cache = d.cache ∧ (fenceLine d i).steps = d.steps ∧ (fenceLine d i).fuse = d.fuse ∧ (fenceLine d i).armed = d.armed ∧ (fenceLine d i).dead = d.dead := by
  unfold fenceLine; split <;> simp
theorem fenceTo_same (d : D) : ∀ k, (fenceTo d k).fl = d.fl ∧ (fenceTo d k).cache = d.cache ∧ (fenceTo d k).steps = d.steps ∧ (fenceTo d k).fuse = d.fuse ∧ (fenceTo d k).armed = d.armed ∧ (fenceTo d k).dead = d.dead
  | 0 => by simp [fenceTo]
  | k + 1 => by
    obtain ⟨h1, h2, h3, h4, h5, h6⟩ := fenceLine_same (fenceTo d k) k
    obtain ⟨g1, g2, g3, g4, g5, g6⟩ := fenceTo_same d k
    exact ⟨h1.trans g1, h2.trans g2, h3.trans g3, h4.trans g4, h5.trans g5, h6.trans g6⟩
end Go.Proofs.Ytmekhdclnhhhbaa.Nv
