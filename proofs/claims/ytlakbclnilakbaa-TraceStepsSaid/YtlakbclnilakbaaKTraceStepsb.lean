/- Parts of the proof, one behind the other. -/
import Derived.WalkKit
import Derived.Laws.BitsAllLaws
import Derived.Test.YtlakbclnilakbaaKTraceStepsa
set_option linter.unusedSimpArgs false
set_option linter.unusedVariables false
set_option linter.unusedSectionVars false
section
namespace Go.Proofs.Ytlakbclnilakbaa.Nv
/-- a device: its words as they last, as they are in the cache, as they were flushed (8 a line); which lines are dirty, which pending; steps done; the fuse -/
structure D where
 last : List Int
 cache : List Int
 fl : List Int
 dirty : List Bool
 pend : List Bool
 steps : Int
 fuse : Int
 armed : Bool
 dead : Bool
/-- all rows have whole lines -/
structure Ok (d : D) (m : Nat) : Prop where
 hl : d.last.length = 8 * m
 hc : d.cache.length = 8 * m
 hf : d.fl.length = 8 * m
 hd : d.dirty.length = m
 hp : d.pend.length = m
def part (l : List Int) (i : Nat) : List Int := (l.drop (8 * i)).take 8
def setPart (l : List Int) (i : Nat) (p : List Int) : List Int := l.take (8 * i) ++ p ++ l.drop (8 * i + 8)
def load (ws : List Int) (m : Nat) : D := ⟨ws, ws, List.replicate ws.length 0, List.replicate m false, List.replicate m false, 0, 0, false, false⟩
def stops (d : D) : Bool := d.dead || (d.armed && d.fuse == 0)
def stepped (d : D) : D := { d with fuse := IntKind.i64.wrap (d.fuse - 1), steps := IntKind.i64.wrap (d.steps + 1) }
def killed (d : D) : D := { d with dead := true }
def put (d : D) (a : Nat) (v : Int) : D := { d with cache := d.cache.set a v, dirty := d.dirty.set (a / 8) true }
def flushed (d : D) (i : Nat) : D := { d with pend := d.pend.set i true, fl := setPart d.fl i (part d.cache i) }
def same (a b : List Int) : Bool := decide (a = b)
def store (d : D) (m : Nat) (a v : Int) : D × Int :=
 if 0 ≤ a ∧ a < 8 * (m : Int) then (if stops d = true then (killed d, 3) else (put (stepped d) a.toNat v, 0)) else (d, 2)
def get (l : List Int) (a : Int) : Int := if 0 ≤ a ∧ a < (l.length : Int) then l.getD a.toNat 0 else 0
theorem length_setPart {l p : List Int} {i : Nat} (h : 8 * i + 8 ≤ l.length) (hp : p.length = 8) : (setPart l i p).length = l.length := by simp [setPart]; omega
theorem length_part {l : List Int} {i : Nat} (h : 8 * i + 8 ≤ l.length) : (part l i).length = 8 := by simp [part]; omega
theorem Ok.killed {d : D} {m : Nat} (h : Ok d m) : Ok (killed d) m := ⟨h.hl, h.hc, h.hf, h.hd, h.hp⟩
theorem Ok.stepped {d : D} {m : Nat} (h : Ok d m) : Ok (stepped d) m := ⟨h.hl, h.hc, h.hf, h.hd, h.hp⟩
theorem Ok.put {d : D} {m : Nat} (h : Ok d m) (a : Nat) (v : Int) : Ok (put d a v) m := ⟨h.hl, by simp [Nv.put, h.hc], h.hf, by simp [Nv.put, h.hd], h.hp⟩
theorem Ok.flushed {d : D} {m : Nat} (h : Ok d m) {i : Nat} (hi : i < m) : Ok (flushed d i) m :=
 ⟨h.hl, h.hc, by simp only [Nv.flushed]; rw [length_setPart (by rw [h.hf]; omega) (length_part (by rw [h.hc]; omega)), h.hf], h.hd, by simp [Nv.flushed, h.hp]⟩
theorem Ok.store {d : D} {m : Nat} (h : Ok d m) (a v : Int) : Ok (store d m a v).1 m := by
 unfold Nv.store; split
 ·split
  ·exact h.killed
  ·exact h.stepped.put _ _
 ·exact h
end Go.Proofs.Ytlakbclnilakbaa.Nv
end

section
namespace Go.Proofs.Ytlakbclnilakbaa
open Go.RowKit
/-- where a device lies -/
structure Geo where
  p : Nat
  bl : Nat
  bc : Nat
  bf : Nat
  bd : Nat
  bp : Nat
  cl : Nat
  cc : Nat
  cf : Nat
  cd : Nat
  cp : Nat
def devCells (g : Geo) (d : Nv.D) : List Value :=
  [.slice (some ⟨g.bl, 0, none⟩) d.last.length g.cl, .slice (some ⟨g.bc, 0, none⟩) d.cache.length g.cc, .slice (some ⟨g.bf, 0, none⟩) d.fl.length g.cf, .slice (some ⟨g.bd, 0, none⟩) d.dirty.length g.cd, .slice (some ⟨g.bp, 0, none⟩) d.pend.length g.cp,
   .int .i64 d.steps, .int .i64 d.fuse, .bool d.armed, .bool d.dead]
def devL (g : Geo) (d : Nv.D) : List Ent :=
  [blk g.p (devCells g d) 119, vec (Value.int .u64) g.bl d.last 78, vec (Value.int .u64) g.bc d.cache 78, vec (Value.int .u64) g.bf d.fl 78, vec Value.bool g.bd d.dirty 4, vec Value.bool g.bp d.pend 4]
abbrev ptr (b : Nat) : Value := .pointer (some ⟨b, 0, none⟩)
end Go.Proofs.Ytlakbclnilakbaa
end

section
namespace Go.Proofs.Ytlakbclnilakbaa
open Go.RowKit
/-- the rows have room -/
structure GOk (g : Geo) (m : Nat) : Prop where
 l : 8 * m ≤ g.cl ∧ g.cl ≤ 9223372036854775807
 c : 8 * m ≤ g.cc ∧ g.cc ≤ 9223372036854775807
 f : 8 * m ≤ g.cf ∧ g.cf ≤ 9223372036854775807
 d : m ≤ g.cd ∧ g.cd ≤ 9223372036854775807
 p : m ≤ g.cp ∧ g.cp ≤ 9223372036854775807
end Go.Proofs.Ytlakbclnilakbaa
end

section
namespace Go.Proofs.Ytlakbclnilakbaa
open Go.RowKit
theorem nGet (g : Geo) (d : Nv.D) (a : Int) (w : World) (hE : Ents (devL g d) w) :
  Calls Try.prog 120 [ptr g.p, .int .i64 a].toArray w fun e w' => e = .returned (.int .u64 (Nv.get d.cache a)) ∧ Only [] w w' := by
 have H := Heap.start hE
 generalize hF : ids (devL g d) = F at H
 unfold devL devCells at H
 unfold Nv.get
 by_cases hin : 0 ≤ a ∧ a < (d.cache.length : Int)
 ·rw [if_pos hin]
  obtain ⟨i, rfl⟩ : ∃ i : Nat, a = (i : Int) := ⟨a.toNat, by omega⟩
  rw [Int.toNat_natCast]
  refine k_in (N := 23) Try.func120 rfl rfl rfl ?_
  refine k_sg ?_
  refine s_run rfl rfl (rai rfl) ?_
  refine k_nc ?_
  refine k_seq ?_
  refine k_sg ?_
  refine s_run rfl rfl (rmi rfl) ?_
  refine s_run rfl rfl (r_lssF rfl rfl (by omega)) ?_
  refine s_run rfl rfl (rmb rfl) ?_
  refine s_run rfl (g_on 7 (by kernel_rfl) rfl) (rmi rfl) ?_
  refine s_run rfl (g_on 7 (by kernel_rfl) rfl) (rmp rfl) ?_
  refine s_run rfl (g_on 7 (by kernel_rfl) rfl) (r_nc rfl) ?_
  first | (refine s_run rfl (g_on 7 (by kernel_rfl) rfl) (r_fa0 rfl fo119_1) ?_) | (refine s_run rfl (g_on 7 (by kernel_rfl) rfl) (r_fa rfl fo119_1) ?_) | fail
  first | (refine s_run rfl (g_on 7 (by kernel_rfl) rfl) (r_lo H 0 rfl rfl rfl ag66) ?_) | (refine s_run rfl (g_on 7 (by kernel_rfl) rfl) (r_lo H 1 rfl rfl rfl ag66) ?_) | (refine s_run rfl (g_on 7 (by kernel_rfl) rfl) (r_lo H 2 rfl rfl rfl ag66) ?_) | (refine s_run rfl (g_on 7 (by kernel_rfl) rfl) (r_lo H 3 rfl rfl rfl ag66) ?_) | (refine s_run rfl (g_on 7 (by kernel_rfl) rfl) (r_lo H 4 rfl rfl rfl ag66) ?_) | (refine s_run rfl (g_on 7 (by kernel_rfl) rfl) (r_lo H 5 rfl rfl rfl ag66) ?_) | (refine s_run rfl (g_on 7 (by kernel_rfl) rfl) (r_lo H 6 rfl rfl rfl ag66) ?_) | (refine s_run rfl (g_on 7 (by kernel_rfl) rfl) (r_lv H 0 rfl rfl (by assumption) ag66) ?_) | (refine s_run rfl (g_on 7 (by kernel_rfl) rfl) (r_lv H 1 rfl rfl (by assumption) ag66) ?_) | (refine s_run rfl (g_on 7 (by kernel_rfl) rfl) (r_lv H 2 rfl rfl (by assumption) ag66) ?_) | (refine s_run rfl (g_on 7 (by kernel_rfl) rfl) (r_lv H 3 rfl rfl (by assumption) ag66) ?_) | (refine s_run rfl (g_on 7 (by kernel_rfl) rfl) (r_lv H 4 rfl rfl (by assumption) ag66) ?_) | (refine s_run rfl (g_on 7 (by kernel_rfl) rfl) (r_lv H 5 rfl rfl (by assumption) ag66) ?_) | (refine s_run rfl (g_on 7 (by kernel_rfl) rfl) (r_lv H 6 rfl rfl (by assumption) ag66) ?_) | (refine s_run rfl (g_on 7 (by kernel_rfl) rfl) (r_lv H 0 rfl rfl (getE (by omega)) ag66) ?_) | (refine s_run rfl (g_on 7 (by kernel_rfl) rfl) (r_lv H 1 rfl rfl (getE (by omega)) ag66) ?_) | (refine s_run rfl (g_on 7 (by kernel_rfl) rfl) (r_lv H 2 rfl rfl (getE (by omega)) ag66) ?_) | (refine s_run rfl (g_on 7 (by kernel_rfl) rfl) (r_lv H 3 rfl rfl (getE (by omega)) ag66) ?_) | (refine s_run rfl (g_on 7 (by kernel_rfl) rfl) (r_lv H 4 rfl rfl (getE (by omega)) ag66) ?_) | (refine s_run rfl (g_on 7 (by kernel_rfl) rfl) (r_lv H 5 rfl rfl (getE (by omega)) ag66) ?_) | (refine s_run rfl (g_on 7 (by kernel_rfl) rfl) (r_lv H 6 rfl rfl (getE (by omega)) ag66) ?_) | (refine s_run rfl (g_on 7 (by kernel_rfl) rfl) (r_lr H rfl (by assumption) (by simp) ag66) ?_) | fail
  refine s_run rfl (g_on 7 (by kernel_rfl) rfl) (r_len rfl Try.underlying66) ?_
  refine s_run rfl (g_on 7 (by kernel_rfl) rfl) (r_geqF rfl rfl (by omega)) ?_
  refine s_run rfl rfl (r_pkF (v := .bool _) rfl rfl) ?_
  refine k_nc ?_
  refine k_f rfl ?_
  refine k_skip ?_
  refine c_norm ?_
  refine k_sg ?_
  refine s_run rfl rfl (rmp rfl) ?_
  refine s_run rfl rfl (r_nc rfl) ?_
  first | (refine s_run rfl rfl (r_fa0 rfl fo119_1) ?_) | (refine s_run rfl rfl (r_fa rfl fo119_1) ?_) | fail
  first | (refine s_run rfl rfl (r_lo H 0 rfl rfl rfl ag66) ?_) | (refine s_run rfl rfl (r_lo H 1 rfl rfl rfl ag66) ?_) | (refine s_run rfl rfl (r_lo H 2 rfl rfl rfl ag66) ?_) | (refine s_run rfl rfl (r_lo H 3 rfl rfl rfl ag66) ?_) | (refine s_run rfl rfl (r_lo H 4 rfl rfl rfl ag66) ?_) | (refine s_run rfl rfl (r_lo H 5 rfl rfl rfl ag66) ?_) | (refine s_run rfl rfl (r_lo H 6 rfl rfl rfl ag66) ?_) | (refine s_run rfl rfl (r_lv H 0 rfl rfl (by assumption) ag66) ?_) | (refine s_run rfl rfl (r_lv H 1 rfl rfl (by assumption) ag66) ?_) | (refine s_run rfl rfl (r_lv H 2 rfl rfl (by assumption) ag66) ?_) | (refine s_run rfl rfl (r_lv H 3 rfl rfl (by assumption) ag66) ?_) | (refine s_run rfl rfl (r_lv H 4 rfl rfl (by assumption) ag66) ?_) | (refine s_run rfl rfl (r_lv H 5 rfl rfl (by assumption) ag66) ?_) | (refine s_run rfl rfl (r_lv H 6 rfl rfl (by assumption) ag66) ?_) | (refine s_run rfl rfl (r_lv H 0 rfl rfl (getE (by omega)) ag66) ?_) | (refine s_run rfl rfl (r_lv H 1 rfl rfl (getE (by omega)) ag66) ?_) | (refine s_run rfl rfl (r_lv H 2 rfl rfl (getE (by omega)) ag66) ?_) | (refine s_run rfl rfl (r_lv H 3 rfl rfl (getE (by omega)) ag66) ?_) | (refine s_run rfl rfl (r_lv H 4 rfl rfl (getE (by omega)) ag66) ?_) | (refine s_run rfl rfl (r_lv H 5 rfl rfl (getE (by omega)) ag66) ?_) | (refine s_run rfl rfl (r_lv H 6 rfl rfl (getE (by omega)) ag66) ?_) | (refine s_run rfl rfl (r_lr H rfl (by assumption) (by simp) ag66) ?_) | fail
  refine s_run rfl rfl (rmi rfl) ?_
  first | (refine s_run rfl rfl (r_ix1 rfl rfl rfl (by omega) Try.underlying66 sz78) ?_) | (refine s_run rfl rfl (r_ix1o rfl rfl rfl (by omega) Try.underlying66 sz78) ?_) | fail
  first | (refine s_run rfl rfl (r_lo H 0 rfl rfl rfl ag78) ?_) | (refine s_run rfl rfl (r_lo H 1 rfl rfl rfl ag78) ?_) | (refine s_run rfl rfl (r_lo H 2 rfl rfl rfl ag78) ?_) | (refine s_run rfl rfl (r_lo H 3 rfl rfl rfl ag78) ?_) | (refine s_run rfl rfl (r_lo H 4 rfl rfl rfl ag78) ?_) | (refine s_run rfl rfl (r_lo H 5 rfl rfl rfl ag78) ?_) | (refine s_run rfl rfl (r_lo H 6 rfl rfl rfl ag78) ?_) | (refine s_run rfl rfl (r_lv H 0 rfl rfl (by assumption) ag78) ?_) | (refine s_run rfl rfl (r_lv H 1 rfl rfl (by assumption) ag78) ?_) | (refine s_run rfl rfl (r_lv H 2 rfl rfl (by assumption) ag78) ?_) | (refine s_run rfl rfl (r_lv H 3 rfl rfl (by assumption) ag78) ?_) | (refine s_run rfl rfl (r_lv H 4 rfl rfl (by assumption) ag78) ?_) | (refine s_run rfl rfl (r_lv H 5 rfl rfl (by assumption) ag78) ?_) | (refine s_run rfl rfl (r_lv H 6 rfl rfl (by assumption) ag78) ?_) | (refine s_run rfl rfl (r_lv H 0 rfl rfl (getE (by omega)) ag78) ?_) | (refine s_run rfl rfl (r_lv H 1 rfl rfl (getE (by omega)) ag78) ?_) | (refine s_run rfl rfl (r_lv H 2 rfl rfl (getE (by omega)) ag78) ?_) | (refine s_run rfl rfl (r_lv H 3 rfl rfl (getE (by omega)) ag78) ?_) | (refine s_run rfl rfl (r_lv H 4 rfl rfl (getE (by omega)) ag78) ?_) | (refine s_run rfl rfl (r_lv H 5 rfl rfl (getE (by omega)) ag78) ?_) | (refine s_run rfl rfl (r_lv H 6 rfl rfl (getE (by omega)) ag78) ?_) | (refine s_run rfl rfl (r_lr H rfl (by assumption) (by simp) ag78) ?_) | fail
  refine s_run rfl rfl (rai rfl) ?_
  refine k_nc ?_
  refine k_ret ?_
  refine fin1r (v := .int _ _) rfl rfl ?_
  exact ⟨rfl, Only.refl _ _⟩
 ·rw [if_neg hin]
  by_cases h1 : a < 0
  ·refine k_in (N := 23) Try.func120 rfl rfl rfl ?_
   refine k_sg ?_
   refine s_run rfl rfl (rai rfl) ?_
   refine k_nc ?_
   refine k_seq ?_
   refine k_sg ?_
   refine s_run rfl rfl (rmi rfl) ?_
   refine s_run rfl rfl (r_lssT rfl rfl (by omega)) ?_
   refine s_run rfl rfl (rmb rfl) ?_
   refine s_off rfl (g_off 7 (by kernel_rfl) rfl rfl) ?_
   refine s_off rfl (g_off 7 (by kernel_rfl) rfl rfl) ?_
   refine s_off rfl (g_off 7 (by kernel_rfl) rfl rfl) ?_
   refine s_off rfl (g_off 7 (by kernel_rfl) rfl rfl) ?_
   refine s_off rfl (g_off 7 (by kernel_rfl) rfl rfl) ?_
   refine s_off rfl (g_off 7 (by kernel_rfl) rfl rfl) ?_
   refine s_off rfl (g_off 7 (by kernel_rfl) rfl rfl) ?_
   refine s_run rfl rfl (r_pkT (v := .bool _) rfl rfl) ?_
   refine k_nc ?_
   refine k_t rfl ?_
   refine k_sg ?_
   refine s_run rfl rfl (rai rfl) ?_
   refine k_nc ?_
   refine k_ret ?_
   refine c_ret ?_
   refine fin1r (v := .int _ _) rfl rfl ?_
   exact ⟨rfl, Only.refl _ _⟩
  ·refine k_in (N := 23) Try.func120 rfl rfl rfl ?_
   refine k_sg ?_
   refine s_run rfl rfl (rai rfl) ?_
   refine k_nc ?_
   refine k_seq ?_
   refine k_sg ?_
   refine s_run rfl rfl (rmi rfl) ?_
   refine s_run rfl rfl (r_lssF rfl rfl (by omega)) ?_
   refine s_run rfl rfl (rmb rfl) ?_
   refine s_run rfl (g_on 7 (by kernel_rfl) rfl) (rmi rfl) ?_
   refine s_run rfl (g_on 7 (by kernel_rfl) rfl) (rmp rfl) ?_
   refine s_run rfl (g_on 7 (by kernel_rfl) rfl) (r_nc rfl) ?_
   first | (refine s_run rfl (g_on 7 (by kernel_rfl) rfl) (r_fa0 rfl fo119_1) ?_) | (refine s_run rfl (g_on 7 (by kernel_rfl) rfl) (r_fa rfl fo119_1) ?_) | fail
   first | (refine s_run rfl (g_on 7 (by kernel_rfl) rfl) (r_lo H 0 rfl rfl rfl ag66) ?_) | (refine s_run rfl (g_on 7 (by kernel_rfl) rfl) (r_lo H 1 rfl rfl rfl ag66) ?_) | (refine s_run rfl (g_on 7 (by kernel_rfl) rfl) (r_lo H 2 rfl rfl rfl ag66) ?_) | (refine s_run rfl (g_on 7 (by kernel_rfl) rfl) (r_lo H 3 rfl rfl rfl ag66) ?_) | (refine s_run rfl (g_on 7 (by kernel_rfl) rfl) (r_lo H 4 rfl rfl rfl ag66) ?_) | (refine s_run rfl (g_on 7 (by kernel_rfl) rfl) (r_lo H 5 rfl rfl rfl ag66) ?_) | (refine s_run rfl (g_on 7 (by kernel_rfl) rfl) (r_lo H 6 rfl rfl rfl ag66) ?_) | (refine s_run rfl (g_on 7 (by kernel_rfl) rfl) (r_lv H 0 rfl rfl (by assumption) ag66) ?_) | (refine s_run rfl (g_on 7 (by kernel_rfl) rfl) (r_lv H 1 rfl rfl (by assumption) ag66) ?_) | (refine s_run rfl (g_on 7 (by kernel_rfl) rfl) (r_lv H 2 rfl rfl (by assumption) ag66) ?_) | (refine s_run rfl (g_on 7 (by kernel_rfl) rfl) (r_lv H 3 rfl rfl (by assumption) ag66) ?_) | (refine s_run rfl (g_on 7 (by kernel_rfl) rfl) (r_lv H 4 rfl rfl (by assumption) ag66) ?_) | (refine s_run rfl (g_on 7 (by kernel_rfl) rfl) (r_lv H 5 rfl rfl (by assumption) ag66) ?_) | (refine s_run rfl (g_on 7 (by kernel_rfl) rfl) (r_lv H 6 rfl rfl (by assumption) ag66) ?_) | (refine s_run rfl (g_on 7 (by kernel_rfl) rfl) (r_lv H 0 rfl rfl (getE (by omega)) ag66) ?_) | (refine s_run rfl (g_on 7 (by kernel_rfl) rfl) (r_lv H 1 rfl rfl (getE (by omega)) ag66) ?_) | (refine s_run rfl (g_on 7 (by kernel_rfl) rfl) (r_lv H 2 rfl rfl (getE (by omega)) ag66) ?_) | (refine s_run rfl (g_on 7 (by kernel_rfl) rfl) (r_lv H 3 rfl rfl (getE (by omega)) ag66) ?_) | (refine s_run rfl (g_on 7 (by kernel_rfl) rfl) (r_lv H 4 rfl rfl (getE (by omega)) ag66) ?_) | (refine s_run rfl (g_on 7 (by kernel_rfl) rfl) (r_lv H 5 rfl rfl (getE (by omega)) ag66) ?_) | (refine s_run rfl (g_on 7 (by kernel_rfl) rfl) (r_lv H 6 rfl rfl (getE (by omega)) ag66) ?_) | (refine s_run rfl (g_on 7 (by kernel_rfl) rfl) (r_lr H rfl (by assumption) (by simp) ag66) ?_) | fail
   refine s_run rfl (g_on 7 (by kernel_rfl) rfl) (r_len rfl Try.underlying66) ?_
   refine s_run rfl (g_on 7 (by kernel_rfl) rfl) (r_geqT rfl rfl (by omega)) ?_
   refine s_run rfl rfl (r_pkF (v := .bool _) rfl rfl) ?_
   refine k_nc ?_
   refine k_t rfl ?_
   refine k_sg ?_
   refine s_run rfl rfl (rai rfl) ?_
   refine k_nc ?_
   refine k_ret ?_
   refine c_ret ?_
   refine fin1r (v := .int _ _) rfl rfl ?_
   exact ⟨rfl, Only.refl _ _⟩
theorem nLen (g : Geo) (d : Nv.D) (w : World) (hE : Ents (devL g d) w) :
  Calls Try.prog 118 [ptr g.p].toArray w fun e w' => e = .returned (.int .i64 d.cache.length) ∧ Only [] w w' := by
 have H := Heap.start hE
 generalize hF : ids (devL g d) = F at H
 unfold devL devCells at H
 refine k_in (N := 8) Try.func118 rfl rfl rfl ?_
 refine k_sg ?_
 refine s_run rfl rfl (rai rfl) ?_
 refine k_nc ?_
 refine k_sg ?_
 refine s_run rfl rfl (rmp rfl) ?_
 refine s_run rfl rfl (r_nc rfl) ?_
 first | (refine s_run rfl rfl (r_fa0 rfl fo119_1) ?_) | (refine s_run rfl rfl (r_fa rfl fo119_1) ?_) | fail
 first | (refine s_run rfl rfl (r_lo H 0 rfl rfl rfl ag66) ?_) | (refine s_run rfl rfl (r_lo H 1 rfl rfl rfl ag66) ?_) | (refine s_run rfl rfl (r_lo H 2 rfl rfl rfl ag66) ?_) | (refine s_run rfl rfl (r_lo H 3 rfl rfl rfl ag66) ?_) | (refine s_run rfl rfl (r_lo H 4 rfl rfl rfl ag66) ?_) | (refine s_run rfl rfl (r_lo H 5 rfl rfl rfl ag66) ?_) | (refine s_run rfl rfl (r_lo H 6 rfl rfl rfl ag66) ?_) | (refine s_run rfl rfl (r_lv H 0 rfl rfl (by assumption) ag66) ?_) | (refine s_run rfl rfl (r_lv H 1 rfl rfl (by assumption) ag66) ?_) | (refine s_run rfl rfl (r_lv H 2 rfl rfl (by assumption) ag66) ?_) | (refine s_run rfl rfl (r_lv H 3 rfl rfl (by assumption) ag66) ?_) | (refine s_run rfl rfl (r_lv H 4 rfl rfl (by assumption) ag66) ?_) | (refine s_run rfl rfl (r_lv H 5 rfl rfl (by assumption) ag66) ?_) | (refine s_run rfl rfl (r_lv H 6 rfl rfl (by assumption) ag66) ?_) | (refine s_run rfl rfl (r_lv H 0 rfl rfl (getE (by omega)) ag66) ?_) | (refine s_run rfl rfl (r_lv H 1 rfl rfl (getE (by omega)) ag66) ?_) | (refine s_run rfl rfl (r_lv H 2 rfl rfl (getE (by omega)) ag66) ?_) | (refine s_run rfl rfl (r_lv H 3 rfl rfl (getE (by omega)) ag66) ?_) | (refine s_run rfl rfl (r_lv H 4 rfl rfl (getE (by omega)) ag66) ?_) | (refine s_run rfl rfl (r_lv H 5 rfl rfl (getE (by omega)) ag66) ?_) | (refine s_run rfl rfl (r_lv H 6 rfl rfl (getE (by omega)) ag66) ?_) | (refine s_run rfl rfl (r_lr H rfl (by assumption) (by simp) ag66) ?_) | fail
 refine s_run rfl rfl (r_len rfl Try.underlying66) ?_
 refine s_run rfl rfl (rai rfl) ?_
 refine k_nc ?_
 refine k_ret ?_
 refine fin1r (v := .int _ _) rfl rfl ?_
 exact ⟨rfl, Only.refl _ _⟩
end Go.Proofs.Ytlakbclnilakbaa
end

section
namespace Go.Proofs.Ytlakbclnilakbaa
open Go.RowKit
end Go.Proofs.Ytlakbclnilakbaa
end

section
namespace Go.Proofs.Ytlakbclnilakbaa
open Go.RowKit
theorem nClone (A : Addr) (n c : Nat) (zs : List Int) (w : World) (hz : Sees (Value.int .u64) w [] (some A) zs) (hl : zs.length = n) (hn : n ≤ 1000000) :
  Calls Try.prog 63 [.slice (some A) n c].toArray w fun e w' => ∃ b c', e = .returned (.slice (some ⟨b, 0, none⟩) n c') ∧ (n ≤ c' ∧ c' ≤ 9223372036854775807) ∧ Heap w [] [vec (Value.int .u64) b zs 78] w' := by
 have H := Heap.nil w
 refine k_in (N := 8) Try.func63 rfl rfl rfl ?_
 refine k_sg ?_
 refine s_run rfl rfl (ras rfl) ?_
 refine k_nc ?_
 refine k_seq ?_
 refine k_sg ?_
 refine s_run rfl rfl (rms rfl) ?_
 refine s_run rfl rfl (r_slnilF rfl rfl Try.underlying66) ?_
 refine k_nc ?_
 refine k_f rfl ?_
 refine k_skip ?_
 refine c_norm ?_
 refine k_sg ?_
 refine s_bs0 1 (by omega) H rfl Try.underlying66 inf78 ?_
 intro _ _ H'; clear H; have H := H'; clear H'
 refine s_run rfl rfl (rms rfl) ?_
 refine s_apps (enc := (Value.int .u64)) (xs := []) H 0 rfl rfl rfl rfl (hz) (hl) (fun _ => rfl) (by omega) Try.underlying66 inf78 rfl ?_
 intro A' c' _ hA H'; simp only [List.set_cons_zero, List.set_cons_succ, List.take_succ_cons, List.take_zero, List.drop_succ_cons, List.drop_zero, List.cons_append, List.nil_append, List.append_nil, List.length_cons, List.length_nil, Nat.reduceAdd] at H'; clear H; have H := H'; clear H'
 refine s_run rfl rfl (ras rfl) ?_
 refine k_nc ?_
 refine k_ret ?_
 refine fin1r (v := .slice _ _ _) rfl rfl ?_
 obtain ⟨b, rfl⟩ := hA (by simp)
 rw [Nat.zero_add] at H
 refine ⟨b, c', by rw [Nat.zero_add], ?_⟩
 by_cases h0 : 0 < n
 ·obtain ⟨b', c2, e1, e2, e3, H2⟩ := own_vec H h0
  injection e1 with e4 _ e5
  injection e4 with e4
  injection e4 with e4
  subst e4; subst e5
  unfold maxLen at e3
  exact ⟨⟨e2, e3⟩, H2⟩
 ·obtain rfl : n = 0 := by omega
  obtain rfl : zs = [] := List.eq_nil_of_length_eq_zero hl
  have ho := H.own_get 0 rfl
  have hb : (0 ≤ c' ∧ c' ≤ 9223372036854775807) := by
   rcases ho.2 with ⟨e, _⟩ | ⟨q, cap, cur, e, _, _, _, hcm, _⟩
   ·cases e
   ·injection e with _ _ e; subst e; unfold maxLen at hcm; omega
  exact ⟨hb, fun E hE => by (rw [List.mem_singleton.1 hE]; exact fun h => absurd rfl h), by simp [ids, vec], by simp [ids, vec], H.only⟩
theorem nload (b c m : Nat) (ws : List Int) (w : World) (hE : Ents [vec (Value.int .u64) b ws 78] w) (hl : ws.length = 8 * m) (hm : m ≤ 100000) (hc : 8 * m ≤ c ∧ c ≤ 9223372036854775807) :
  Calls Try.prog 89 [.slice (some ⟨b, 0, none⟩) (8 * m) c].toArray w fun e w' => ∃ g, e = .returned (ptr g.p) ∧ GOk g m ∧ Heap w (ids [vec (Value.int .u64) b ws 78]) (devL g (Nv.load ws m)) w' := by
 have H := Heap.start hE
 generalize hF : ids [vec (Value.int .u64) b ws 78] = F at H ⊢
 refine k_in (N := 19) Try.func89 rfl rfl rfl ?_
 refine k_sg ?_
 refine s_run rfl rfl (rap rfl) ?_
 refine k_nc ?_
 refine k_sg ?_
 refine s_run rfl rfl (rms rfl) ?_
 refine s_run rfl rfl (r_len rfl Try.underlying66) ?_
 refine s_run rfl rfl (r_quo rfl rfl (by omega) (wI (by omega))) ?_
 refine s_run rfl rfl (rai rfl) ?_
 refine k_nc ?_
 refine k_seq ?_
 refine k_cut (fun f' W' => ∃ p bc cc bf bd bp, (8 * m ≤ cc ∧ cc ≤ 9223372036854775807) ∧ f' 2 = ptr p ∧ Heap w F [blk p [.slice (some ⟨b, 0, none⟩) (8 * m) c, .slice (some ⟨bc, 0, none⟩) (8 * m) cc, .slice (some ⟨bf, 0, none⟩) (8 * m) (8 * m), .slice (some ⟨bd, 0, none⟩) m m, .slice (some ⟨bp, 0, none⟩) m m, .int .i64 0, .int .i64 0, .bool false, .bool false] 119, vec Value.bool bp (List.replicate m false) 4, vec Value.bool bd (List.replicate m false) 4, vec (Value.int .u64) bf (List.replicate (8 * m) 0) 78, vec (Value.int .u64) bc ws 78, vec (Value.int .u64) b ws 78] W') ?_ ?_
 ·have HR := H; clear H; have H := HR.tree; refine k_tr mixed ?_
  refine tqn 0 rfl rfl rfl (fun _ hS => r_mv (v := .slice _ _ _) rfl) H.only ?_
  refine tqn 1 rfl rfl rfl (fun _ hS => r_mv (v := .slice _ _ _) rfl) H.only ?_
  refine tqn 3 rfl rfl rfl (fun _ hS => r_mv (v := .slice _ _ _) rfl) H.only ?_
  refine tqn 4 rfl rfl rfl (fun _ hS => r_len rfl Try.underlying66) H.only ?_
  refine tqn 6 rfl rfl rfl (fun _ hS => r_mv (v := .int _ _) rfl) H.only ?_
  refine tqn 8 rfl rfl rfl (fun _ hS => r_mv (v := .int _ _) rfl) H.only ?_
  refine t_up4 2 5 7 9 (by kernel_rfl) ?_ ?_ ?_ ?_
  ·refine up_mk rfl ?_
   refine s_call rfl (nClone _ _ _ ws _ (fun _ => ⟨_, _, rfl, by simp, (HR.same H.only).reads0 0 rfl⟩) (by omega) (by omega)) (ca63 rfl) ?_
   rintro e W1 ⟨bc, cc, rfl, hcc, H'⟩
   refine ⟨_, rfl, ?_⟩
   have H := H.more H'; clear H'
   refine k_nil ?_
   refine t_on H.only ?_
   refine t_up3 5 7 9 (by kernel_rfl) ?_ ?_ ?_
   ·refine up_mk rfl ?_
    refine s_mk (Value.int .u64) 0 (m := (8 * m)) H rfl rfl rfl (by omega) (by omega) (by omega) Try.underlying66 inf78 rfl ?_
    intro bf _ H'; clear H; have H := H'; clear H'
    refine k_nil ?_
    refine t_on H.only ?_
    refine t_up2 7 9 (by kernel_rfl) ?_ ?_
    ·refine up_mk rfl ?_
     refine s_mk Value.bool false (m := m) H rfl rfl rfl (by omega) (by omega) (by omega) Try.underlying62 inf4 rfl ?_
     intro bd _ H'; clear H; have H := H'; clear H'
     refine k_nil ?_
     refine t_on H.only ?_
     refine t_up1 9 (by kernel_rfl) ?_
     refine up_mk rfl ?_
     refine s_mk Value.bool false (m := m) H rfl rfl rfl (by omega) (by omega) (by omega) Try.underlying62 inf4 rfl ?_
     intro bp _ H'; clear H; have H := H'; clear H'
     refine k_nil ?_
     refine t_on H.only ?_
     refine tqn 10 rfl rfl rfl (fun _ hS => r_bd (bd119_0_1_2_3_4 _ _ _ _ _ _ _ _ _ _ _ _ _ _ _) rfl) H.only ?_
     refine t_up1 11 (by kernel_rfl) ?_
     refine up_mk rfl ?_
     first | (refine s_box1 H rfl rfl rfl ?_) | (refine s_box H rfl rfl ?_) | fail
     intro p18 _ H'; clear H; have H := H'; clear H'
     refine k_nil ?_
     refine t_on H.only ?_
     refine tqn 12 rfl rfl rfl (fun _ hS => r_as (v := .pointer _) rfl) H.only ?_
     refine t_done (by kernel_rfl) ?_
     have H := HR.more H; clear HR; simp only [List.cons_append, List.nil_append] at H
     refine k_met ?_
     exact ⟨_, _, _, _, _, _, hcc, rfl, H⟩
    ·refine up_mk rfl ?_
     refine s_mk Value.bool false (m := m) H rfl rfl rfl (by omega) (by omega) (by omega) Try.underlying62 inf4 rfl ?_
     intro bp _ H'; clear H; have H := H'; clear H'
     refine k_nil ?_
     refine t_on H.only ?_
     refine t_up1 7 (by kernel_rfl) ?_
     refine up_mk rfl ?_
     refine s_mk Value.bool false (m := m) H rfl rfl rfl (by omega) (by omega) (by omega) Try.underlying62 inf4 rfl ?_
     intro bd _ H'; clear H; have H := H'; clear H'
     refine k_nil ?_
     refine t_on H.only ?_
     refine tqn 10 rfl rfl rfl (fun _ hS => r_bd (bd119_0_1_2_3_4 _ _ _ _ _ _ _ _ _ _ _ _ _ _ _) rfl) H.only ?_
     refine t_up1 11 (by kernel_rfl) ?_
     refine up_mk rfl ?_
     first | (refine s_box1 H rfl rfl rfl ?_) | (refine s_box H rfl rfl ?_) | fail
     intro p18 _ H'; clear H; have H := H'; clear H'
     refine k_nil ?_
     refine t_on H.only ?_
     refine tqn 12 rfl rfl rfl (fun _ hS => r_as (v := .pointer _) rfl) H.only ?_
     refine t_done (by kernel_rfl) ?_
     replace H := H.pick 4 rfl; simp only [jL, jM] at H
     replace H := H.pick 4 rfl; simp only [jL, jM] at H
     replace H := H.pick 3 rfl; simp only [jL, jM] at H
     replace H := H.pick 4 rfl; simp only [jL, jM] at H
     replace H := H.pick 4 rfl; simp only [jL, jM] at H
     have H := HR.more H; clear HR; simp only [List.cons_append, List.nil_append] at H
     refine k_met ?_
     exact ⟨_, _, _, _, _, _, hcc, rfl, H⟩
   ·refine up_mk rfl ?_
    refine s_mk Value.bool false (m := m) H rfl rfl rfl (by omega) (by omega) (by omega) Try.underlying62 inf4 rfl ?_
    intro bd _ H'; clear H; have H := H'; clear H'
    refine k_nil ?_
    refine t_on H.only ?_
    refine t_up2 5 9 (by kernel_rfl) ?_ ?_
    ·refine up_mk rfl ?_
     refine s_mk (Value.int .u64) 0 (m := (8 * m)) H rfl rfl rfl (by omega) (by omega) (by omega) Try.underlying66 inf78 rfl ?_
     intro bf _ H'; clear H; have H := H'; clear H'
     refine k_nil ?_
     refine t_on H.only ?_
     refine t_up1 9 (by kernel_rfl) ?_
     refine up_mk rfl ?_
     refine s_mk Value.bool false (m := m) H rfl rfl rfl (by omega) (by omega) (by omega) Try.underlying62 inf4 rfl ?_
     intro bp _ H'; clear H; have H := H'; clear H'
     refine k_nil ?_
     refine t_on H.only ?_
     refine tqn 10 rfl rfl rfl (fun _ hS => r_bd (bd119_0_1_2_3_4 _ _ _ _ _ _ _ _ _ _ _ _ _ _ _) rfl) H.only ?_
     refine t_up1 11 (by kernel_rfl) ?_
     refine up_mk rfl ?_
     first | (refine s_box1 H rfl rfl rfl ?_) | (refine s_box H rfl rfl ?_) | fail
     intro p18 _ H'; clear H; have H := H'; clear H'
     refine k_nil ?_
     refine t_on H.only ?_
     refine tqn 12 rfl rfl rfl (fun _ hS => r_as (v := .pointer _) rfl) H.only ?_
     refine t_done (by kernel_rfl) ?_
     replace H := H.pick 4 rfl; simp only [jL, jM] at H
     replace H := H.pick 3 rfl; simp only [jL, jM] at H
     replace H := H.pick 4 rfl; simp only [jL, jM] at H
     replace H := H.pick 4 rfl; simp only [jL, jM] at H
     replace H := H.pick 4 rfl; simp only [jL, jM] at H
     have H := HR.more H; clear HR; simp only [List.cons_append, List.nil_append] at H
     refine k_met ?_
     exact ⟨_, _, _, _, _, _, hcc, rfl, H⟩
    ·refine up_mk rfl ?_
     refine s_mk Value.bool false (m := m) H rfl rfl rfl (by omega) (by omega) (by omega) Try.underlying62 inf4 rfl ?_
     intro bp _ H'; clear H; have H := H'; clear H'
     refine k_nil ?_
     refine t_on H.only ?_
     refine t_up1 5 (by kernel_rfl) ?_
     refine up_mk rfl ?_
     refine s_mk (Value.int .u64) 0 (m := (8 * m)) H rfl rfl rfl (by omega) (by omega) (by omega) Try.underlying66 inf78 rfl ?_
     intro bf _ H'; clear H; have H := H'; clear H'
     refine k_nil ?_
     refine t_on H.only ?_
     refine tqn 10 rfl rfl rfl (fun _ hS => r_bd (bd119_0_1_2_3_4 _ _ _ _ _ _ _ _ _ _ _ _ _ _ _) rfl) H.only ?_
     refine t_up1 11 (by kernel_rfl) ?_
     refine up_mk rfl ?_
     first | (refine s_box1 H rfl rfl rfl ?_) | (refine s_box H rfl rfl ?_) | fail
     intro p18 _ H'; clear H; have H := H'; clear H'
     refine k_nil ?_
     refine t_on H.only ?_
     refine tqn 12 rfl rfl rfl (fun _ hS => r_as (v := .pointer _) rfl) H.only ?_
     refine t_done (by kernel_rfl) ?_
     replace H := H.pick 4 rfl; simp only [jL, jM] at H
     replace H := H.pick 2 rfl; simp only [jL, jM] at H
     replace H := H.pick 4 rfl; simp only [jL, jM] at H
     replace H := H.pick 4 rfl; simp only [jL, jM] at H
     replace H := H.pick 4 rfl; simp only [jL, jM] at H
     have H := HR.more H; clear HR; simp only [List.cons_append, List.nil_append] at H
     refine k_met ?_
     exact ⟨_, _, _, _, _, _, hcc, rfl, H⟩
   ·refine up_mk rfl ?_
    refine s_mk Value.bool false (m := m) H rfl rfl rfl (by omega) (by omega) (by omega) Try.underlying62 inf4 rfl ?_
    intro bp _ H'; clear H; have H := H'; clear H'
    refine k_nil ?_
    refine t_on H.only ?_
    refine t_up2 5 7 (by kernel_rfl) ?_ ?_
    ·refine up_mk rfl ?_
     refine s_mk (Value.int .u64) 0 (m := (8 * m)) H rfl rfl rfl (by omega) (by omega) (by omega) Try.underlying66 inf78 rfl ?_
     intro bf _ H'; clear H; have H := H'; clear H'
     refine k_nil ?_
     refine t_on H.only ?_
     refine t_up1 7 (by kernel_rfl) ?_
     refine up_mk rfl ?_
     refine s_mk Value.bool false (m := m) H rfl rfl rfl (by omega) (by omega) (by omega) Try.underlying62 inf4 rfl ?_
     intro bd _ H'; clear H; have H := H'; clear H'
     refine k_nil ?_
     refine t_on H.only ?_
     refine tqn 10 rfl rfl rfl (fun _ hS => r_bd (bd119_0_1_2_3_4 _ _ _ _ _ _ _ _ _ _ _ _ _ _ _) rfl) H.only ?_
     refine t_up1 11 (by kernel_rfl) ?_
     refine up_mk rfl ?_
     first | (refine s_box1 H rfl rfl rfl ?_) | (refine s_box H rfl rfl ?_) | fail
     intro p18 _ H'; clear H; have H := H'; clear H'
     refine k_nil ?_
     refine t_on H.only ?_
     refine tqn 12 rfl rfl rfl (fun _ hS => r_as (v := .pointer _) rfl) H.only ?_
     refine t_done (by kernel_rfl) ?_
     replace H := H.pick 4 rfl; simp only [jL, jM] at H
     replace H := H.pick 3 rfl; simp only [jL, jM] at H
     replace H := H.pick 3 rfl; simp only [jL, jM] at H
     replace H := H.pick 4 rfl; simp only [jL, jM] at H
     replace H := H.pick 4 rfl; simp only [jL, jM] at H
     have H := HR.more H; clear HR; simp only [List.cons_append, List.nil_append] at H
     refine k_met ?_
     exact ⟨_, _, _, _, _, _, hcc, rfl, H⟩
    ·refine up_mk rfl ?_
     refine s_mk Value.bool false (m := m) H rfl rfl rfl (by omega) (by omega) (by omega) Try.underlying62 inf4 rfl ?_
     intro bd _ H'; clear H; have H := H'; clear H'
     refine k_nil ?_
     refine t_on H.only ?_
     refine t_up1 5 (by kernel_rfl) ?_
     refine up_mk rfl ?_
     refine s_mk (Value.int .u64) 0 (m := (8 * m)) H rfl rfl rfl (by omega) (by omega) (by omega) Try.underlying66 inf78 rfl ?_
     intro bf _ H'; clear H; have H := H'; clear H'
     refine k_nil ?_
     refine t_on H.only ?_
     refine tqn 10 rfl rfl rfl (fun _ hS => r_bd (bd119_0_1_2_3_4 _ _ _ _ _ _ _ _ _ _ _ _ _ _ _) rfl) H.only ?_
     refine t_up1 11 (by kernel_rfl) ?_
     refine up_mk rfl ?_
     first | (refine s_box1 H rfl rfl rfl ?_) | (refine s_box H rfl rfl ?_) | fail
     intro p18 _ H'; clear H; have H := H'; clear H'
     refine k_nil ?_
     refine t_on H.only ?_
     refine tqn 12 rfl rfl rfl (fun _ hS => r_as (v := .pointer _) rfl) H.only ?_
     refine t_done (by kernel_rfl) ?_
     replace H := H.pick 4 rfl; simp only [jL, jM] at H
     replace H := H.pick 2 rfl; simp only [jL, jM] at H
     replace H := H.pick 3 rfl; simp only [jL, jM] at H
     replace H := H.pick 4 rfl; simp only [jL, jM] at H
     replace H := H.pick 4 rfl; simp only [jL, jM] at H
     have H := HR.more H; clear HR; simp only [List.cons_append, List.nil_append] at H
     refine k_met ?_
     exact ⟨_, _, _, _, _, _, hcc, rfl, H⟩
  ·refine up_mk rfl ?_
   refine s_mk (Value.int .u64) 0 (m := (8 * m)) H rfl rfl rfl (by omega) (by omega) (by omega) Try.underlying66 inf78 rfl ?_
   intro bf _ H'; clear H; have H := H'; clear H'
   refine k_nil ?_
   refine t_on H.only ?_
   refine t_up3 2 7 9 (by kernel_rfl) ?_ ?_ ?_
   ·refine up_mk rfl ?_
    refine s_call rfl (nClone _ _ _ ws _ (fun _ => ⟨_, _, rfl, by simp, (HR.same H.only).reads0 0 rfl⟩) (by omega) (by omega)) (ca63 rfl) ?_
    rintro e W1 ⟨bc, cc, rfl, hcc, H'⟩
    refine ⟨_, rfl, ?_⟩
    have H := H.more H'; clear H'
    refine k_nil ?_
    refine t_on H.only ?_
    refine t_up2 7 9 (by kernel_rfl) ?_ ?_
    ·refine up_mk rfl ?_
     refine s_mk Value.bool false (m := m) H rfl rfl rfl (by omega) (by omega) (by omega) Try.underlying62 inf4 rfl ?_
     intro bd _ H'; clear H; have H := H'; clear H'
     refine k_nil ?_
     refine t_on H.only ?_
     refine t_up1 9 (by kernel_rfl) ?_
     refine up_mk rfl ?_
     refine s_mk Value.bool false (m := m) H rfl rfl rfl (by omega) (by omega) (by omega) Try.underlying62 inf4 rfl ?_
     intro bp _ H'; clear H; have H := H'; clear H'
     refine k_nil ?_
     refine t_on H.only ?_
     refine tqn 10 rfl rfl rfl (fun _ hS => r_bd (bd119_0_1_2_3_4 _ _ _ _ _ _ _ _ _ _ _ _ _ _ _) rfl) H.only ?_
     refine t_up1 11 (by kernel_rfl) ?_
     refine up_mk rfl ?_
     first | (refine s_box1 H rfl rfl rfl ?_) | (refine s_box H rfl rfl ?_) | fail
     intro p18 _ H'; clear H; have H := H'; clear H'
     refine k_nil ?_
     refine t_on H.only ?_
     refine tqn 12 rfl rfl rfl (fun _ hS => r_as (v := .pointer _) rfl) H.only ?_
     refine t_done (by kernel_rfl) ?_
     replace H := H.pick 3 rfl; simp only [jL, jM] at H
     replace H := H.pick 4 rfl; simp only [jL, jM] at H
     replace H := H.pick 4 rfl; simp only [jL, jM] at H
     replace H := H.pick 4 rfl; simp only [jL, jM] at H
     replace H := H.pick 4 rfl; simp only [jL, jM] at H
     have H := HR.more H; clear HR; simp only [List.cons_append, List.nil_append] at H
     refine k_met ?_
     exact ⟨_, _, _, _, _, _, hcc, rfl, H⟩
    ·refine up_mk rfl ?_
     refine s_mk Value.bool false (m := m) H rfl rfl rfl (by omega) (by omega) (by omega) Try.underlying62 inf4 rfl ?_
     intro bp _ H'; clear H; have H := H'; clear H'
     refine k_nil ?_
     refine t_on H.only ?_
     refine t_up1 7 (by kernel_rfl) ?_
     refine up_mk rfl ?_
     refine s_mk Value.bool false (m := m) H rfl rfl rfl (by omega) (by omega) (by omega) Try.underlying62 inf4 rfl ?_
     intro bd _ H'; clear H; have H := H'; clear H'
     refine k_nil ?_
     refine t_on H.only ?_
     refine tqn 10 rfl rfl rfl (fun _ hS => r_bd (bd119_0_1_2_3_4 _ _ _ _ _ _ _ _ _ _ _ _ _ _ _) rfl) H.only ?_
     refine t_up1 11 (by kernel_rfl) ?_
     refine up_mk rfl ?_
     first | (refine s_box1 H rfl rfl rfl ?_) | (refine s_box H rfl rfl ?_) | fail
     intro p18 _ H'; clear H; have H := H'; clear H'
     refine k_nil ?_
     refine t_on H.only ?_
     refine tqn 12 rfl rfl rfl (fun _ hS => r_as (v := .pointer _) rfl) H.only ?_
     refine t_done (by kernel_rfl) ?_
     replace H := H.pick 3 rfl; simp only [jL, jM] at H
     replace H := H.pick 4 rfl; simp only [jL, jM] at H
     replace H := H.pick 3 rfl; simp only [jL, jM] at H
     replace H := H.pick 4 rfl; simp only [jL, jM] at H
     replace H := H.pick 4 rfl; simp only [jL, jM] at H
     have H := HR.more H; clear HR; simp only [List.cons_append, List.nil_append] at H
     refine k_met ?_
     exact ⟨_, _, _, _, _, _, hcc, rfl, H⟩
   ·refine up_mk rfl ?_
    refine s_mk Value.bool false (m := m) H rfl rfl rfl (by omega) (by omega) (by omega) Try.underlying62 inf4 rfl ?_
    intro bd _ H'; clear H; have H := H'; clear H'
    refine k_nil ?_
    refine t_on H.only ?_
    refine t_up2 2 9 (by kernel_rfl) ?_ ?_
    ·refine up_mk rfl ?_
     refine s_call rfl (nClone _ _ _ ws _ (fun _ => ⟨_, _, rfl, by simp, (HR.same H.only).reads0 0 rfl⟩) (by omega) (by omega)) (ca63 rfl) ?_
     rintro e W1 ⟨bc, cc, rfl, hcc, H'⟩
     refine ⟨_, rfl, ?_⟩
     have H := H.more H'; clear H'
     refine k_nil ?_
     refine t_on H.only ?_
     refine t_up1 9 (by kernel_rfl) ?_
     refine up_mk rfl ?_
     refine s_mk Value.bool false (m := m) H rfl rfl rfl (by omega) (by omega) (by omega) Try.underlying62 inf4 rfl ?_
     intro bp _ H'; clear H; have H := H'; clear H'
     refine k_nil ?_
     refine t_on H.only ?_
     refine tqn 10 rfl rfl rfl (fun _ hS => r_bd (bd119_0_1_2_3_4 _ _ _ _ _ _ _ _ _ _ _ _ _ _ _) rfl) H.only ?_
     refine t_up1 11 (by kernel_rfl) ?_
     refine up_mk rfl ?_
     first | (refine s_box1 H rfl rfl rfl ?_) | (refine s_box H rfl rfl ?_) | fail
     intro p18 _ H'; clear H; have H := H'; clear H'
     refine k_nil ?_
     refine t_on H.only ?_
     refine tqn 12 rfl rfl rfl (fun _ hS => r_as (v := .pointer _) rfl) H.only ?_
     refine t_done (by kernel_rfl) ?_
     replace H := H.pick 2 rfl; simp only [jL, jM] at H
     replace H := H.pick 4 rfl; simp only [jL, jM] at H
     replace H := H.pick 4 rfl; simp only [jL, jM] at H
     replace H := H.pick 4 rfl; simp only [jL, jM] at H
     replace H := H.pick 4 rfl; simp only [jL, jM] at H
     have H := HR.more H; clear HR; simp only [List.cons_append, List.nil_append] at H
     refine k_met ?_
     exact ⟨_, _, _, _, _, _, hcc, rfl, H⟩
    ·refine up_mk rfl ?_
     refine s_mk Value.bool false (m := m) H rfl rfl rfl (by omega) (by omega) (by omega) Try.underlying62 inf4 rfl ?_
     intro bp _ H'; clear H; have H := H'; clear H'
     refine k_nil ?_
     refine t_on H.only ?_
     refine t_up1 2 (by kernel_rfl) ?_
     refine up_mk rfl ?_
     refine s_call rfl (nClone _ _ _ ws _ (fun _ => ⟨_, _, rfl, by simp, (HR.same H.only).reads0 0 rfl⟩) (by omega) (by omega)) (ca63 rfl) ?_
     rintro e W1 ⟨bc, cc, rfl, hcc, H'⟩
     refine ⟨_, rfl, ?_⟩
     have H := H.more H'; clear H'
     refine k_nil ?_
     refine t_on H.only ?_
     refine tqn 10 rfl rfl rfl (fun _ hS => r_bd (bd119_0_1_2_3_4 _ _ _ _ _ _ _ _ _ _ _ _ _ _ _) rfl) H.only ?_
     refine t_up1 11 (by kernel_rfl) ?_
     refine up_mk rfl ?_
     first | (refine s_box1 H rfl rfl rfl ?_) | (refine s_box H rfl rfl ?_) | fail
     intro p18 _ H'; clear H; have H := H'; clear H'
     refine k_nil ?_
     refine t_on H.only ?_
     refine tqn 12 rfl rfl rfl (fun _ hS => r_as (v := .pointer _) rfl) H.only ?_
     refine t_done (by kernel_rfl) ?_
     replace H := H.pick 1 rfl; simp only [jL, jM] at H
     replace H := H.pick 4 rfl; simp only [jL, jM] at H
     replace H := H.pick 4 rfl; simp only [jL, jM] at H
     replace H := H.pick 4 rfl; simp only [jL, jM] at H
     replace H := H.pick 4 rfl; simp only [jL, jM] at H
     have H := HR.more H; clear HR; simp only [List.cons_append, List.nil_append] at H
     refine k_met ?_
     exact ⟨_, _, _, _, _, _, hcc, rfl, H⟩
   ·refine up_mk rfl ?_
    refine s_mk Value.bool false (m := m) H rfl rfl rfl (by omega) (by omega) (by omega) Try.underlying62 inf4 rfl ?_
    intro bp _ H'; clear H; have H := H'; clear H'
    refine k_nil ?_
    refine t_on H.only ?_
    refine t_up2 2 7 (by kernel_rfl) ?_ ?_
    ·refine up_mk rfl ?_
     refine s_call rfl (nClone _ _ _ ws _ (fun _ => ⟨_, _, rfl, by simp, (HR.same H.only).reads0 0 rfl⟩) (by omega) (by omega)) (ca63 rfl) ?_
     rintro e W1 ⟨bc, cc, rfl, hcc, H'⟩
     refine ⟨_, rfl, ?_⟩
     have H := H.more H'; clear H'
     refine k_nil ?_
     refine t_on H.only ?_
     refine t_up1 7 (by kernel_rfl) ?_
     refine up_mk rfl ?_
     refine s_mk Value.bool false (m := m) H rfl rfl rfl (by omega) (by omega) (by omega) Try.underlying62 inf4 rfl ?_
     intro bd _ H'; clear H; have H := H'; clear H'
     refine k_nil ?_
     refine t_on H.only ?_
     refine tqn 10 rfl rfl rfl (fun _ hS => r_bd (bd119_0_1_2_3_4 _ _ _ _ _ _ _ _ _ _ _ _ _ _ _) rfl) H.only ?_
     refine t_up1 11 (by kernel_rfl) ?_
     refine up_mk rfl ?_
     first | (refine s_box1 H rfl rfl rfl ?_) | (refine s_box H rfl rfl ?_) | fail
     intro p18 _ H'; clear H; have H := H'; clear H'
     refine k_nil ?_
     refine t_on H.only ?_
     refine tqn 12 rfl rfl rfl (fun _ hS => r_as (v := .pointer _) rfl) H.only ?_
     refine t_done (by kernel_rfl) ?_
     replace H := H.pick 2 rfl; simp only [jL, jM] at H
     replace H := H.pick 4 rfl; simp only [jL, jM] at H
     replace H := H.pick 3 rfl; simp only [jL, jM] at H
     replace H := H.pick 4 rfl; simp only [jL, jM] at H
     replace H := H.pick 4 rfl; simp only [jL, jM] at H
     have H := HR.more H; clear HR; simp only [List.cons_append, List.nil_append] at H
     refine k_met ?_
     exact ⟨_, _, _, _, _, _, hcc, rfl, H⟩
    ·refine up_mk rfl ?_
     refine s_mk Value.bool false (m := m) H rfl rfl rfl (by omega) (by omega) (by omega) Try.underlying62 inf4 rfl ?_
     intro bd _ H'; clear H; have H := H'; clear H'
     refine k_nil ?_
     refine t_on H.only ?_
     refine t_up1 2 (by kernel_rfl) ?_
     refine up_mk rfl ?_
     refine s_call rfl (nClone _ _ _ ws _ (fun _ => ⟨_, _, rfl, by simp, (HR.same H.only).reads0 0 rfl⟩) (by omega) (by omega)) (ca63 rfl) ?_
     rintro e W1 ⟨bc, cc, rfl, hcc, H'⟩
     refine ⟨_, rfl, ?_⟩
     have H := H.more H'; clear H'
     refine k_nil ?_
     refine t_on H.only ?_
     refine tqn 10 rfl rfl rfl (fun _ hS => r_bd (bd119_0_1_2_3_4 _ _ _ _ _ _ _ _ _ _ _ _ _ _ _) rfl) H.only ?_
     refine t_up1 11 (by kernel_rfl) ?_
     refine up_mk rfl ?_
     first | (refine s_box1 H rfl rfl rfl ?_) | (refine s_box H rfl rfl ?_) | fail
     intro p18 _ H'; clear H; have H := H'; clear H'
     refine k_nil ?_
     refine t_on H.only ?_
     refine tqn 12 rfl rfl rfl (fun _ hS => r_as (v := .pointer _) rfl) H.only ?_
     refine t_done (by kernel_rfl) ?_
     replace H := H.pick 1 rfl; simp only [jL, jM] at H
     replace H := H.pick 4 rfl; simp only [jL, jM] at H
     replace H := H.pick 3 rfl; simp only [jL, jM] at H
     replace H := H.pick 4 rfl; simp only [jL, jM] at H
     replace H := H.pick 4 rfl; simp only [jL, jM] at H
     have H := HR.more H; clear HR; simp only [List.cons_append, List.nil_append] at H
     refine k_met ?_
     exact ⟨_, _, _, _, _, _, hcc, rfl, H⟩
  ·refine up_mk rfl ?_
   refine s_mk Value.bool false (m := m) H rfl rfl rfl (by omega) (by omega) (by omega) Try.underlying62 inf4 rfl ?_
   intro bd _ H'; clear H; have H := H'; clear H'
   refine k_nil ?_
   refine t_on H.only ?_
   refine t_up3 2 5 9 (by kernel_rfl) ?_ ?_ ?_
   ·refine up_mk rfl ?_
    refine s_call rfl (nClone _ _ _ ws _ (fun _ => ⟨_, _, rfl, by simp, (HR.same H.only).reads0 0 rfl⟩) (by omega) (by omega)) (ca63 rfl) ?_
    rintro e W1 ⟨bc, cc, rfl, hcc, H'⟩
    refine ⟨_, rfl, ?_⟩
    have H := H.more H'; clear H'
    refine k_nil ?_
    refine t_on H.only ?_
    refine t_up2 5 9 (by kernel_rfl) ?_ ?_
    ·refine up_mk rfl ?_
     refine s_mk (Value.int .u64) 0 (m := (8 * m)) H rfl rfl rfl (by omega) (by omega) (by omega) Try.underlying66 inf78 rfl ?_
     intro bf _ H'; clear H; have H := H'; clear H'
     refine k_nil ?_
     refine t_on H.only ?_
     refine t_up1 9 (by kernel_rfl) ?_
     refine up_mk rfl ?_
     refine s_mk Value.bool false (m := m) H rfl rfl rfl (by omega) (by omega) (by omega) Try.underlying62 inf4 rfl ?_
     intro bp _ H'; clear H; have H := H'; clear H'
     refine k_nil ?_
     refine t_on H.only ?_
     refine tqn 10 rfl rfl rfl (fun _ hS => r_bd (bd119_0_1_2_3_4 _ _ _ _ _ _ _ _ _ _ _ _ _ _ _) rfl) H.only ?_
     refine t_up1 11 (by kernel_rfl) ?_
     refine up_mk rfl ?_
     first | (refine s_box1 H rfl rfl rfl ?_) | (refine s_box H rfl rfl ?_) | fail
     intro p18 _ H'; clear H; have H := H'; clear H'
     refine k_nil ?_
     refine t_on H.only ?_
     refine tqn 12 rfl rfl rfl (fun _ hS => r_as (v := .pointer _) rfl) H.only ?_
     refine t_done (by kernel_rfl) ?_
     replace H := H.pick 3 rfl; simp only [jL, jM] at H
     replace H := H.pick 3 rfl; simp only [jL, jM] at H
     replace H := H.pick 4 rfl; simp only [jL, jM] at H
     replace H := H.pick 4 rfl; simp only [jL, jM] at H
     replace H := H.pick 4 rfl; simp only [jL, jM] at H
     have H := HR.more H; clear HR; simp only [List.cons_append, List.nil_append] at H
     refine k_met ?_
     exact ⟨_, _, _, _, _, _, hcc, rfl, H⟩
    ·refine up_mk rfl ?_
     refine s_mk Value.bool false (m := m) H rfl rfl rfl (by omega) (by omega) (by omega) Try.underlying62 inf4 rfl ?_
     intro bp _ H'; clear H; have H := H'; clear H'
     refine k_nil ?_
     refine t_on H.only ?_
     refine t_up1 5 (by kernel_rfl) ?_
     refine up_mk rfl ?_
     refine s_mk (Value.int .u64) 0 (m := (8 * m)) H rfl rfl rfl (by omega) (by omega) (by omega) Try.underlying66 inf78 rfl ?_
     intro bf _ H'; clear H; have H := H'; clear H'
     refine k_nil ?_
     refine t_on H.only ?_
     refine tqn 10 rfl rfl rfl (fun _ hS => r_bd (bd119_0_1_2_3_4 _ _ _ _ _ _ _ _ _ _ _ _ _ _ _) rfl) H.only ?_
     refine t_up1 11 (by kernel_rfl) ?_
     refine up_mk rfl ?_
     first | (refine s_box1 H rfl rfl rfl ?_) | (refine s_box H rfl rfl ?_) | fail
     intro p18 _ H'; clear H; have H := H'; clear H'
     refine k_nil ?_
     refine t_on H.only ?_
     refine tqn 12 rfl rfl rfl (fun _ hS => r_as (v := .pointer _) rfl) H.only ?_
     refine t_done (by kernel_rfl) ?_
     replace H := H.pick 3 rfl; simp only [jL, jM] at H
     replace H := H.pick 2 rfl; simp only [jL, jM] at H
     replace H := H.pick 4 rfl; simp only [jL, jM] at H
     replace H := H.pick 4 rfl; simp only [jL, jM] at H
     replace H := H.pick 4 rfl; simp only [jL, jM] at H
     have H := HR.more H; clear HR; simp only [List.cons_append, List.nil_append] at H
     refine k_met ?_
     exact ⟨_, _, _, _, _, _, hcc, rfl, H⟩
   ·refine up_mk rfl ?_
    refine s_mk (Value.int .u64) 0 (m := (8 * m)) H rfl rfl rfl (by omega) (by omega) (by omega) Try.underlying66 inf78 rfl ?_
    intro bf _ H'; clear H; have H := H'; clear H'
    refine k_nil ?_
    refine t_on H.only ?_
    refine t_up2 2 9 (by kernel_rfl) ?_ ?_
    ·refine up_mk rfl ?_
     refine s_call rfl (nClone _ _ _ ws _ (fun _ => ⟨_, _, rfl, by simp, (HR.same H.only).reads0 0 rfl⟩) (by omega) (by omega)) (ca63 rfl) ?_
     rintro e W1 ⟨bc, cc, rfl, hcc, H'⟩
     refine ⟨_, rfl, ?_⟩
     have H := H.more H'; clear H'
     refine k_nil ?_
     refine t_on H.only ?_
     refine t_up1 9 (by kernel_rfl) ?_
     refine up_mk rfl ?_
     refine s_mk Value.bool false (m := m) H rfl rfl rfl (by omega) (by omega) (by omega) Try.underlying62 inf4 rfl ?_
     intro bp _ H'; clear H; have H := H'; clear H'
     refine k_nil ?_
     refine t_on H.only ?_
     refine tqn 10 rfl rfl rfl (fun _ hS => r_bd (bd119_0_1_2_3_4 _ _ _ _ _ _ _ _ _ _ _ _ _ _ _) rfl) H.only ?_
     refine t_up1 11 (by kernel_rfl) ?_
     refine up_mk rfl ?_
     first | (refine s_box1 H rfl rfl rfl ?_) | (refine s_box H rfl rfl ?_) | fail
     intro p18 _ H'; clear H; have H := H'; clear H'
     refine k_nil ?_
     refine t_on H.only ?_
     refine tqn 12 rfl rfl rfl (fun _ hS => r_as (v := .pointer _) rfl) H.only ?_
     refine t_done (by kernel_rfl) ?_
     replace H := H.pick 2 rfl; simp only [jL, jM] at H
     replace H := H.pick 3 rfl; simp only [jL, jM] at H
     replace H := H.pick 4 rfl; simp only [jL, jM] at H
     replace H := H.pick 4 rfl; simp only [jL, jM] at H
     replace H := H.pick 4 rfl; simp only [jL, jM] at H
     have H := HR.more H; clear HR; simp only [List.cons_append, List.nil_append] at H
     refine k_met ?_
     exact ⟨_, _, _, _, _, _, hcc, rfl, H⟩
    ·refine up_mk rfl ?_
     refine s_mk Value.bool false (m := m) H rfl rfl rfl (by omega) (by omega) (by omega) Try.underlying62 inf4 rfl ?_
     intro bp _ H'; clear H; have H := H'; clear H'
     refine k_nil ?_
     refine t_on H.only ?_
     refine t_up1 2 (by kernel_rfl) ?_
     refine up_mk rfl ?_
     refine s_call rfl (nClone _ _ _ ws _ (fun _ => ⟨_, _, rfl, by simp, (HR.same H.only).reads0 0 rfl⟩) (by omega) (by omega)) (ca63 rfl) ?_
     rintro e W1 ⟨bc, cc, rfl, hcc, H'⟩
     refine ⟨_, rfl, ?_⟩
     have H := H.more H'; clear H'
     refine k_nil ?_
     refine t_on H.only ?_
     refine tqn 10 rfl rfl rfl (fun _ hS => r_bd (bd119_0_1_2_3_4 _ _ _ _ _ _ _ _ _ _ _ _ _ _ _) rfl) H.only ?_
     refine t_up1 11 (by kernel_rfl) ?_
     refine up_mk rfl ?_
     first | (refine s_box1 H rfl rfl rfl ?_) | (refine s_box H rfl rfl ?_) | fail
     intro p18 _ H'; clear H; have H := H'; clear H'
     refine k_nil ?_
     refine t_on H.only ?_
     refine tqn 12 rfl rfl rfl (fun _ hS => r_as (v := .pointer _) rfl) H.only ?_
     refine t_done (by kernel_rfl) ?_
     replace H := H.pick 1 rfl; simp only [jL, jM] at H
     replace H := H.pick 3 rfl; simp only [jL, jM] at H
     replace H := H.pick 4 rfl; simp only [jL, jM] at H
     replace H := H.pick 4 rfl; simp only [jL, jM] at H
     replace H := H.pick 4 rfl; simp only [jL, jM] at H
     have H := HR.more H; clear HR; simp only [List.cons_append, List.nil_append] at H
     refine k_met ?_
     exact ⟨_, _, _, _, _, _, hcc, rfl, H⟩
   ·refine up_mk rfl ?_
    refine s_mk Value.bool false (m := m) H rfl rfl rfl (by omega) (by omega) (by omega) Try.underlying62 inf4 rfl ?_
    intro bp _ H'; clear H; have H := H'; clear H'
    refine k_nil ?_
    refine t_on H.only ?_
    refine t_up2 2 5 (by kernel_rfl) ?_ ?_
    ·refine up_mk rfl ?_
     refine s_call rfl (nClone _ _ _ ws _ (fun _ => ⟨_, _, rfl, by simp, (HR.same H.only).reads0 0 rfl⟩) (by omega) (by omega)) (ca63 rfl) ?_
     rintro e W1 ⟨bc, cc, rfl, hcc, H'⟩
     refine ⟨_, rfl, ?_⟩
     have H := H.more H'; clear H'
     refine k_nil ?_
     refine t_on H.only ?_
     refine t_up1 5 (by kernel_rfl) ?_
     refine up_mk rfl ?_
     refine s_mk (Value.int .u64) 0 (m := (8 * m)) H rfl rfl rfl (by omega) (by omega) (by omega) Try.underlying66 inf78 rfl ?_
     intro bf _ H'; clear H; have H := H'; clear H'
     refine k_nil ?_
     refine t_on H.only ?_
     refine tqn 10 rfl rfl rfl (fun _ hS => r_bd (bd119_0_1_2_3_4 _ _ _ _ _ _ _ _ _ _ _ _ _ _ _) rfl) H.only ?_
     refine t_up1 11 (by kernel_rfl) ?_
     refine up_mk rfl ?_
     first | (refine s_box1 H rfl rfl rfl ?_) | (refine s_box H rfl rfl ?_) | fail
     intro p18 _ H'; clear H; have H := H'; clear H'
     refine k_nil ?_
     refine t_on H.only ?_
     refine tqn 12 rfl rfl rfl (fun _ hS => r_as (v := .pointer _) rfl) H.only ?_
     refine t_done (by kernel_rfl) ?_
     replace H := H.pick 2 rfl; simp only [jL, jM] at H
     replace H := H.pick 2 rfl; simp only [jL, jM] at H
     replace H := H.pick 4 rfl; simp only [jL, jM] at H
     replace H := H.pick 4 rfl; simp only [jL, jM] at H
     replace H := H.pick 4 rfl; simp only [jL, jM] at H
     have H := HR.more H; clear HR; simp only [List.cons_append, List.nil_append] at H
     refine k_met ?_
     exact ⟨_, _, _, _, _, _, hcc, rfl, H⟩
    ·refine up_mk rfl ?_
     refine s_mk (Value.int .u64) 0 (m := (8 * m)) H rfl rfl rfl (by omega) (by omega) (by omega) Try.underlying66 inf78 rfl ?_
     intro bf _ H'; clear H; have H := H'; clear H'
     refine k_nil ?_
     refine t_on H.only ?_
     refine t_up1 2 (by kernel_rfl) ?_
     refine up_mk rfl ?_
     refine s_call rfl (nClone _ _ _ ws _ (fun _ => ⟨_, _, rfl, by simp, (HR.same H.only).reads0 0 rfl⟩) (by omega) (by omega)) (ca63 rfl) ?_
     rintro e W1 ⟨bc, cc, rfl, hcc, H'⟩
     refine ⟨_, rfl, ?_⟩
     have H := H.more H'; clear H'
     refine k_nil ?_
     refine t_on H.only ?_
     refine tqn 10 rfl rfl rfl (fun _ hS => r_bd (bd119_0_1_2_3_4 _ _ _ _ _ _ _ _ _ _ _ _ _ _ _) rfl) H.only ?_
     refine t_up1 11 (by kernel_rfl) ?_
     refine up_mk rfl ?_
     first | (refine s_box1 H rfl rfl rfl ?_) | (refine s_box H rfl rfl ?_) | fail
     intro p18 _ H'; clear H; have H := H'; clear H'
     refine k_nil ?_
     refine t_on H.only ?_
     refine tqn 12 rfl rfl rfl (fun _ hS => r_as (v := .pointer _) rfl) H.only ?_
     refine t_done (by kernel_rfl) ?_
     replace H := H.pick 1 rfl; simp only [jL, jM] at H
     replace H := H.pick 2 rfl; simp only [jL, jM] at H
     replace H := H.pick 4 rfl; simp only [jL, jM] at H
     replace H := H.pick 4 rfl; simp only [jL, jM] at H
     replace H := H.pick 4 rfl; simp only [jL, jM] at H
     have H := HR.more H; clear HR; simp only [List.cons_append, List.nil_append] at H
     refine k_met ?_
     exact ⟨_, _, _, _, _, _, hcc, rfl, H⟩
  ·refine up_mk rfl ?_
   refine s_mk Value.bool false (m := m) H rfl rfl rfl (by omega) (by omega) (by omega) Try.underlying62 inf4 rfl ?_
   intro bp _ H'; clear H; have H := H'; clear H'
   refine k_nil ?_
   refine t_on H.only ?_
   refine t_up3 2 5 7 (by kernel_rfl) ?_ ?_ ?_
   ·refine up_mk rfl ?_
    refine s_call rfl (nClone _ _ _ ws _ (fun _ => ⟨_, _, rfl, by simp, (HR.same H.only).reads0 0 rfl⟩) (by omega) (by omega)) (ca63 rfl) ?_
    rintro e W1 ⟨bc, cc, rfl, hcc, H'⟩
    refine ⟨_, rfl, ?_⟩
    have H := H.more H'; clear H'
    refine k_nil ?_
    refine t_on H.only ?_
    refine t_up2 5 7 (by kernel_rfl) ?_ ?_
    ·refine up_mk rfl ?_
     refine s_mk (Value.int .u64) 0 (m := (8 * m)) H rfl rfl rfl (by omega) (by omega) (by omega) Try.underlying66 inf78 rfl ?_
     intro bf _ H'; clear H; have H := H'; clear H'
     refine k_nil ?_
     refine t_on H.only ?_
     refine t_up1 7 (by kernel_rfl) ?_
     refine up_mk rfl ?_
     refine s_mk Value.bool false (m := m) H rfl rfl rfl (by omega) (by omega) (by omega) Try.underlying62 inf4 rfl ?_
     intro bd _ H'; clear H; have H := H'; clear H'
     refine k_nil ?_
     refine t_on H.only ?_
     refine tqn 10 rfl rfl rfl (fun _ hS => r_bd (bd119_0_1_2_3_4 _ _ _ _ _ _ _ _ _ _ _ _ _ _ _) rfl) H.only ?_
     refine t_up1 11 (by kernel_rfl) ?_
     refine up_mk rfl ?_
     first | (refine s_box1 H rfl rfl rfl ?_) | (refine s_box H rfl rfl ?_) | fail
     intro p18 _ H'; clear H; have H := H'; clear H'
     refine k_nil ?_
     refine t_on H.only ?_
     refine tqn 12 rfl rfl rfl (fun _ hS => r_as (v := .pointer _) rfl) H.only ?_
     refine t_done (by kernel_rfl) ?_
     replace H := H.pick 3 rfl; simp only [jL, jM] at H
     replace H := H.pick 3 rfl; simp only [jL, jM] at H
     replace H := H.pick 3 rfl; simp only [jL, jM] at H
     replace H := H.pick 4 rfl; simp only [jL, jM] at H
     replace H := H.pick 4 rfl; simp only [jL, jM] at H
     have H := HR.more H; clear HR; simp only [List.cons_append, List.nil_append] at H
     refine k_met ?_
     exact ⟨_, _, _, _, _, _, hcc, rfl, H⟩
    ·refine up_mk rfl ?_
     refine s_mk Value.bool false (m := m) H rfl rfl rfl (by omega) (by omega) (by omega) Try.underlying62 inf4 rfl ?_
     intro bd _ H'; clear H; have H := H'; clear H'
     refine k_nil ?_
     refine t_on H.only ?_
     refine t_up1 5 (by kernel_rfl) ?_
     refine up_mk rfl ?_
     refine s_mk (Value.int .u64) 0 (m := (8 * m)) H rfl rfl rfl (by omega) (by omega) (by omega) Try.underlying66 inf78 rfl ?_
     intro bf _ H'; clear H; have H := H'; clear H'
     refine k_nil ?_
     refine t_on H.only ?_
     refine tqn 10 rfl rfl rfl (fun _ hS => r_bd (bd119_0_1_2_3_4 _ _ _ _ _ _ _ _ _ _ _ _ _ _ _) rfl) H.only ?_
     refine t_up1 11 (by kernel_rfl) ?_
     refine up_mk rfl ?_
     first | (refine s_box1 H rfl rfl rfl ?_) | (refine s_box H rfl rfl ?_) | fail
     intro p18 _ H'; clear H; have H := H'; clear H'
     refine k_nil ?_
     refine t_on H.only ?_
     refine tqn 12 rfl rfl rfl (fun _ hS => r_as (v := .pointer _) rfl) H.only ?_
     refine t_done (by kernel_rfl) ?_
     replace H := H.pick 3 rfl; simp only [jL, jM] at H
     replace H := H.pick 2 rfl; simp only [jL, jM] at H
     replace H := H.pick 3 rfl; simp only [jL, jM] at H
     replace H := H.pick 4 rfl; simp only [jL, jM] at H
     replace H := H.pick 4 rfl; simp only [jL, jM] at H
     have H := HR.more H; clear HR; simp only [List.cons_append, List.nil_append] at H
     refine k_met ?_
     exact ⟨_, _, _, _, _, _, hcc, rfl, H⟩
   ·refine up_mk rfl ?_
    refine s_mk (Value.int .u64) 0 (m := (8 * m)) H rfl rfl rfl (by omega) (by omega) (by omega) Try.underlying66 inf78 rfl ?_
    intro bf _ H'; clear H; have H := H'; clear H'
    refine k_nil ?_
    refine t_on H.only ?_
    refine t_up2 2 7 (by kernel_rfl) ?_ ?_
    ·refine up_mk rfl ?_
     refine s_call rfl (nClone _ _ _ ws _ (fun _ => ⟨_, _, rfl, by simp, (HR.same H.only).reads0 0 rfl⟩) (by omega) (by omega)) (ca63 rfl) ?_
     rintro e W1 ⟨bc, cc, rfl, hcc, H'⟩
     refine ⟨_, rfl, ?_⟩
     have H := H.more H'; clear H'
     refine k_nil ?_
     refine t_on H.only ?_
     refine t_up1 7 (by kernel_rfl) ?_
     refine up_mk rfl ?_
     refine s_mk Value.bool false (m := m) H rfl rfl rfl (by omega) (by omega) (by omega) Try.underlying62 inf4 rfl ?_
     intro bd _ H'; clear H; have H := H'; clear H'
     refine k_nil ?_
     refine t_on H.only ?_
     refine tqn 10 rfl rfl rfl (fun _ hS => r_bd (bd119_0_1_2_3_4 _ _ _ _ _ _ _ _ _ _ _ _ _ _ _) rfl) H.only ?_
     refine t_up1 11 (by kernel_rfl) ?_
     refine up_mk rfl ?_
     first | (refine s_box1 H rfl rfl rfl ?_) | (refine s_box H rfl rfl ?_) | fail
     intro p18 _ H'; clear H; have H := H'; clear H'
     refine k_nil ?_
     refine t_on H.only ?_
     refine tqn 12 rfl rfl rfl (fun _ hS => r_as (v := .pointer _) rfl) H.only ?_
     refine t_done (by kernel_rfl) ?_
     replace H := H.pick 2 rfl; simp only [jL, jM] at H
     replace H := H.pick 3 rfl; simp only [jL, jM] at H
     replace H := H.pick 3 rfl; simp only [jL, jM] at H
     replace H := H.pick 4 rfl; simp only [jL, jM] at H
     replace H := H.pick 4 rfl; simp only [jL, jM] at H
     have H := HR.more H; clear HR; simp only [List.cons_append, List.nil_append] at H
     refine k_met ?_
     exact ⟨_, _, _, _, _, _, hcc, rfl, H⟩
    ·refine up_mk rfl ?_
     refine s_mk Value.bool false (m := m) H rfl rfl rfl (by omega) (by omega) (by omega) Try.underlying62 inf4 rfl ?_
     intro bd _ H'; clear H; have H := H'; clear H'
     refine k_nil ?_
     refine t_on H.only ?_
     refine t_up1 2 (by kernel_rfl) ?_
     refine up_mk rfl ?_
     refine s_call rfl (nClone _ _ _ ws _ (fun _ => ⟨_, _, rfl, by simp, (HR.same H.only).reads0 0 rfl⟩) (by omega) (by omega)) (ca63 rfl) ?_
     rintro e W1 ⟨bc, cc, rfl, hcc, H'⟩
     refine ⟨_, rfl, ?_⟩
     have H := H.more H'; clear H'
     refine k_nil ?_
     refine t_on H.only ?_
     refine tqn 10 rfl rfl rfl (fun _ hS => r_bd (bd119_0_1_2_3_4 _ _ _ _ _ _ _ _ _ _ _ _ _ _ _) rfl) H.only ?_
     refine t_up1 11 (by kernel_rfl) ?_
     refine up_mk rfl ?_
     first | (refine s_box1 H rfl rfl rfl ?_) | (refine s_box H rfl rfl ?_) | fail
     intro p18 _ H'; clear H; have H := H'; clear H'
     refine k_nil ?_
     refine t_on H.only ?_
     refine tqn 12 rfl rfl rfl (fun _ hS => r_as (v := .pointer _) rfl) H.only ?_
     refine t_done (by kernel_rfl) ?_
     replace H := H.pick 1 rfl; simp only [jL, jM] at H
     replace H := H.pick 3 rfl; simp only [jL, jM] at H
     replace H := H.pick 3 rfl; simp only [jL, jM] at H
     replace H := H.pick 4 rfl; simp only [jL, jM] at H
     replace H := H.pick 4 rfl; simp only [jL, jM] at H
     have H := HR.more H; clear HR; simp only [List.cons_append, List.nil_append] at H
     refine k_met ?_
     exact ⟨_, _, _, _, _, _, hcc, rfl, H⟩
   ·refine up_mk rfl ?_
    refine s_mk Value.bool false (m := m) H rfl rfl rfl (by omega) (by omega) (by omega) Try.underlying62 inf4 rfl ?_
    intro bd _ H'; clear H; have H := H'; clear H'
    refine k_nil ?_
    refine t_on H.only ?_
    refine t_up2 2 5 (by kernel_rfl) ?_ ?_
    ·refine up_mk rfl ?_
     refine s_call rfl (nClone _ _ _ ws _ (fun _ => ⟨_, _, rfl, by simp, (HR.same H.only).reads0 0 rfl⟩) (by omega) (by omega)) (ca63 rfl) ?_
     rintro e W1 ⟨bc, cc, rfl, hcc, H'⟩
     refine ⟨_, rfl, ?_⟩
     have H := H.more H'; clear H'
     refine k_nil ?_
     refine t_on H.only ?_
     refine t_up1 5 (by kernel_rfl) ?_
     refine up_mk rfl ?_
     refine s_mk (Value.int .u64) 0 (m := (8 * m)) H rfl rfl rfl (by omega) (by omega) (by omega) Try.underlying66 inf78 rfl ?_
     intro bf _ H'; clear H; have H := H'; clear H'
     refine k_nil ?_
     refine t_on H.only ?_
     refine tqn 10 rfl rfl rfl (fun _ hS => r_bd (bd119_0_1_2_3_4 _ _ _ _ _ _ _ _ _ _ _ _ _ _ _) rfl) H.only ?_
     refine t_up1 11 (by kernel_rfl) ?_
     refine up_mk rfl ?_
     first | (refine s_box1 H rfl rfl rfl ?_) | (refine s_box H rfl rfl ?_) | fail
     intro p18 _ H'; clear H; have H := H'; clear H'
     refine k_nil ?_
     refine t_on H.only ?_
     refine tqn 12 rfl rfl rfl (fun _ hS => r_as (v := .pointer _) rfl) H.only ?_
     refine t_done (by kernel_rfl) ?_
     replace H := H.pick 2 rfl; simp only [jL, jM] at H
     replace H := H.pick 2 rfl; simp only [jL, jM] at H
     replace H := H.pick 3 rfl; simp only [jL, jM] at H
     replace H := H.pick 4 rfl; simp only [jL, jM] at H
     replace H := H.pick 4 rfl; simp only [jL, jM] at H
     have H := HR.more H; clear HR; simp only [List.cons_append, List.nil_append] at H
     refine k_met ?_
     exact ⟨_, _, _, _, _, _, hcc, rfl, H⟩
    ·refine up_mk rfl ?_
     refine s_mk (Value.int .u64) 0 (m := (8 * m)) H rfl rfl rfl (by omega) (by omega) (by omega) Try.underlying66 inf78 rfl ?_
     intro bf _ H'; clear H; have H := H'; clear H'
     refine k_nil ?_
     refine t_on H.only ?_
     refine t_up1 2 (by kernel_rfl) ?_
     refine up_mk rfl ?_
     refine s_call rfl (nClone _ _ _ ws _ (fun _ => ⟨_, _, rfl, by simp, (HR.same H.only).reads0 0 rfl⟩) (by omega) (by omega)) (ca63 rfl) ?_
     rintro e W1 ⟨bc, cc, rfl, hcc, H'⟩
     refine ⟨_, rfl, ?_⟩
     have H := H.more H'; clear H'
     refine k_nil ?_
     refine t_on H.only ?_
     refine tqn 10 rfl rfl rfl (fun _ hS => r_bd (bd119_0_1_2_3_4 _ _ _ _ _ _ _ _ _ _ _ _ _ _ _) rfl) H.only ?_
     refine t_up1 11 (by kernel_rfl) ?_
     refine up_mk rfl ?_
     first | (refine s_box1 H rfl rfl rfl ?_) | (refine s_box H rfl rfl ?_) | fail
     intro p18 _ H'; clear H; have H := H'; clear H'
     refine k_nil ?_
     refine t_on H.only ?_
     refine tqn 12 rfl rfl rfl (fun _ hS => r_as (v := .pointer _) rfl) H.only ?_
     refine t_done (by kernel_rfl) ?_
     replace H := H.pick 1 rfl; simp only [jL, jM] at H
     replace H := H.pick 2 rfl; simp only [jL, jM] at H
     replace H := H.pick 3 rfl; simp only [jL, jM] at H
     replace H := H.pick 4 rfl; simp only [jL, jM] at H
     replace H := H.pick 4 rfl; simp only [jL, jM] at H
     have H := HR.more H; clear HR; simp only [List.cons_append, List.nil_append] at H
     refine k_met ?_
     exact ⟨_, _, _, _, _, _, hcc, rfl, H⟩
 clear H
 rintro f' W ⟨p, bc, cc, bf, bd, bp, hcc, h2, H⟩
 obtain ⟨f', rfl⟩ := live1 h2
 refine c_norm ?_
 refine k_ret ?_
 refine fin1r (v := .pointer _) rfl rfl ?_
 refine ⟨⟨p, b, bc, bf, bd, bp, c, cc, 8 * m, m, m⟩, rfl, ⟨hc, hcc, by simp; omega, by simp; omega, by simp; omega⟩, ?_⟩
 unfold devL devCells Nv.load
 simp only [hl, List.length_replicate]
 refine H.perm ?_
 refine List.Perm.cons _ ?_
 exact (List.reverse_perm [vec (Value.int .u64) b ws 78, vec (Value.int .u64) bc ws 78, vec (Value.int .u64) bf (List.replicate (8 * m) 0) 78, vec Value.bool bd (List.replicate m false) 4, vec Value.bool bp (List.replicate m false) 4])
theorem nUp (n : Int) (w : World) (h : -9223372036854775808 ≤ n ∧ n ≤ 9223372036854775807) :
  Calls Try.prog 88 [.int .i64 n, .int .i64 8].toArray w fun e w' => e = .returned (.int .i64 (((n.toNat + 7) / 8 : Nat) : Int)) ∧ Only [] w w' := by
 have H := Heap.nil w
 by_cases h0 : n ≤ 0
 ·refine k_in (N := 16) Try.func88 rfl rfl rfl ?_
  refine k_sg ?_
  refine s_run rfl rfl (rai rfl) ?_
  refine k_nc ?_
  refine k_seq ?_
  refine k_sg ?_
  refine s_run rfl rfl (rmi rfl) ?_
  refine s_run rfl rfl (r_leqT rfl rfl (by omega)) ?_
  refine s_run rfl rfl (rmb rfl) ?_
  refine s_off rfl (g_off 7 (by kernel_rfl) rfl rfl) ?_
  refine s_off rfl (g_off 7 (by kernel_rfl) rfl rfl) ?_
  refine s_run rfl rfl (r_pkT (v := .bool _) rfl rfl) ?_
  refine k_nc ?_
  refine k_t rfl ?_
  refine k_sg ?_
  refine s_run rfl rfl (rai rfl) ?_
  refine k_nc ?_
  refine k_ret ?_
  refine c_ret ?_
  refine fin1r (v := .int _ _) rfl rfl ?_
  exact ⟨by rw [show ((n.toNat + 7) / 8 : Nat) = 0 from by omega]; rfl, H.only⟩
 ·refine k_in (N := 16) Try.func88 rfl rfl rfl ?_
  refine k_sg ?_
  refine s_run rfl rfl (rai rfl) ?_
  refine k_nc ?_
  refine k_seq ?_
  refine k_sg ?_
  refine s_run rfl rfl (rmi rfl) ?_
  refine s_run rfl rfl (r_leqF rfl rfl (by omega)) ?_
  refine s_run rfl rfl (rmb rfl) ?_
  refine s_run rfl (g_on 7 (by kernel_rfl) rfl) (rmi rfl) ?_
  refine s_run rfl (g_on 7 (by kernel_rfl) rfl) (r_leqF rfl rfl (by omega)) ?_
  refine s_run rfl rfl (r_pkF (v := .bool _) rfl rfl) ?_
  refine k_nc ?_
  refine k_f rfl ?_
  refine k_skip ?_
  refine c_norm ?_
  refine k_sg ?_
  refine s_run rfl rfl (rmi rfl) ?_
  refine s_run rfl rfl (r_sub rfl rfl (wI (by omega))) ?_
  refine s_run rfl rfl (rmi rfl) ?_
  refine s_run rfl rfl (r_quo rfl rfl (by omega) (wI (by omega))) ?_
  refine s_run rfl rfl (r_add rfl rfl (wI (by omega))) ?_
  refine s_run rfl rfl (rai rfl) ?_
  refine k_nc ?_
  refine k_ret ?_
  refine fin1r (v := .int _ _) rfl rfl ?_
  exact ⟨ret_int (by omega), H.only⟩
theorem nLoad (A : Option Addr) (n c : Nat) (zs : List Int) (w : World) (hz : Sees (Value.int .u64) w [] A zs) (hl : zs.length = n) (hn : n ≤ 500000) :
  Calls Try.prog 60 [.slice A n c].toArray w fun e w' => ∃ g, e = .returned (ptr g.p) ∧ GOk g ((n + 7) / 8) ∧ Heap w [] (devL g (Nv.load (zs ++ List.replicate (8 * ((n + 7) / 8) - n) 0) ((n + 7) / 8))) w' := by
 have H := Heap.nil w
 have hq : (n + 7) / 8 ≤ 100000 ∧ n ≤ 8 * ((n + 7) / 8) := by omega
 have hU := nUp n w (by omega)
 rw [Int.toNat_natCast] at hU
 generalize (n + 7) / 8 = m at hq hU ⊢
 refine k_in (N := 14) Try.func60 rfl rfl rfl ?_
 refine k_sg ?_
 refine s_run rfl rfl (rap rfl) ?_
 refine k_nc ?_
 refine k_sg ?_
 refine s_run rfl rfl (rms rfl) ?_
 refine s_run rfl rfl (r_len rfl Try.underlying66) ?_
 refine s_call rfl (hU) (ca88 rfl) ?_
 rintro e W1 ⟨rfl, H'⟩
 refine ⟨_, rfl, ?_⟩
 have H := H.same H'; clear H'
 refine s_run rfl rfl (r_mul rfl rfl (wI (by omega))) ?_
 refine s_mk (Value.int .u64) 0 (m := (8 * m)) H rfl rfl rfl (by omega) (by omega) (by omega) Try.underlying66 inf78 rfl ?_
 intro b _ H'; clear H; have H := H'; clear H'
 refine s_run rfl rfl (ras rfl) ?_
 refine k_nc ?_
 refine k_sg ?_
 refine s_run rfl rfl (rms rfl) ?_
 refine s_run rfl rfl (rms rfl) ?_
 refine s_cpr (enc := (Value.int .u64)) H 0 rfl rfl rfl rfl (hz) (hl) (fun _ => rfl) (by first | omega | (simp; omega)) Try.underlying66 inf78 ?_
 clear H; intro _ H; simp only [jA, jB, jC, jD, jE, jF, jG, jH, jI, jJ, jK, Nat.reduceAdd] at H
 refine k_nc ?_
 refine k_sg ?_
 refine s_run rfl rfl (rms rfl) ?_
 refine s_call rfl (nload b (8 * m) m _ _ H.ents (by simp; omega) hq.1 (by omega)) (ca89 rfl) ?_
 rintro e W1 ⟨g, rfl, hg, H'⟩
 refine ⟨_, rfl, ?_⟩
 have H := H.whole H'; clear H'
 refine s_run rfl rfl (rap rfl) ?_
 refine k_nc ?_
 refine k_ret ?_
 refine fin1r (v := .pointer _) rfl rfl ?_
 refine ⟨g, rfl, hg, ?_⟩
 rw [List.drop_replicate] at H
 exact H
end Go.Proofs.Ytlakbclnilakbaa
end

section
namespace Go.Proofs.Ytlakbclnilakbaa
open Go.RowKit
end Go.Proofs.Ytlakbclnilakbaa
end

section
namespace Go.Proofs.Ytlakbclnilakbaa
open Go.RowKit
end Go.Proofs.Ytlakbclnilakbaa
end

section
namespace Go.Proofs.Ytlakbclnilakbaa.Cl
open Go Go.RowKit
def szs : List Int := [2, 3, 4, 5, 6, 7, 8, 10, 12, 14, 16, 18, 20, 24, 28, 32, 36, 40, 46, 51, 56, 64, 73, 85, 92, 102, 113, 128, 146, 170, 204, 256]
def sz (j : Nat) : Int := szs.getD j 0
def SZ : Value := .agg (szs.map (Value.int .i64)).toArray
/-- words of a class -/
def words (k : Int) : Int := if 0 ≤ k ∧ k < 32 then sz k.toNat else 0
theorem words_out (k : Int) (h : k < 0 ∨ 32 ≤ k) : words k = 0 := by unfold words; rw [if_neg (by omega)]
theorem words_in (k : Int) (h : 0 ≤ k) (h2 : k < 32) : words k = sz k.toNat := by unfold words; rw [if_pos ⟨h, h2⟩]
theorem sz_bd : ∀ j < 32, 2 ≤ sz j ∧ sz j ≤ 256 := by decide
theorem sz_step : ∀ j < 31, sz j < sz (j + 1) := by decide
theorem words_bd (k : Int) : 0 ≤ words k ∧ words k ≤ 256 := by
  unfold words; split
  · have := sz_bd k.toNat (by omega); omega
  · omega
theorem words_pos (k : Int) (h : 0 ≤ k) (h2 : k < 32) : 2 ≤ words k := by rw [words_in k h h2]; exact (sz_bd k.toNat (by omega)).1
theorem sz_mono (d : Nat) : ∀ j, j + d < 32 → sz j ≤ sz (j + d) := by
  induction d with
  | zero => intro j _; exact Int.le_refl _
  | succ d ih => intro j h; have a := ih j (by omega); have b := sz_step (j + d) (by omega); have e : j + (d + 1) = j + d + 1 := by omega
                 rw [e]; omega
theorem words_mono (i j : Int) (h0 : 0 ≤ i) (h : i ≤ j) (h2 : j < 32) : words i ≤ words j := by
  rw [words_in i h0 (by omega), words_in j (by omega) h2]
  have := sz_mono (j.toNat - i.toNat) i.toNat (by omega)
  rwa [show i.toNat + (j.toNat - i.toNat) = j.toNat from by omega] at this
theorem SZ_at (k : Int) (h : 0 ≤ k) (h2 : k < 32) : (szs.map (Value.int .i64)).toArray[k.toNat]? = some (.int .i64 (words k)) := by
  rw [words_in k h h2]
  have hl : szs.length = 32 := rfl
  have : k.toNat < szs.length := by omega
  simp [sz, List.getElem?_eq_getElem this]
/-- the least class whose cells have so many words; -1: none -/
def Least (n k : Int) : Prop := 0 ≤ k ∧ k < 32 ∧ n ≤ words k ∧ ∀ j, 0 ≤ j → j < k → words j < n
theorem Least.unique {n k l : Int} (h : Least n k) (h2 : Least n l) : k = l := by
  obtain ⟨a1, a2, a3, a4⟩ := h
  obtain ⟨b1, b2, b3, b4⟩ := h2
  rcases Int.lt_trichotomy k l with h | h | h
  · have := b4 k a1 h; omega
  · exact h
  · have := a4 l b1 h; omega
theorem Least.bd {n k : Int} (h : Least n k) : 0 ≤ k ∧ k < 32 := ⟨h.1, h.2.1⟩
theorem Least.lt {n k : Int} (h : Least n k) (j : Int) (h0 : 0 ≤ j) (h1 : j < k) : words j < n := h.2.2.2 j h0 h1
theorem Least.le {n k : Int} (h : Least n k) : n ≤ words k := h.2.2.1
def findN (n : Int) : Nat → Nat → Nat
  | 0, j => j
  | f + 1, j => if n ≤ words j then j else findN n f (j + 1)
theorem findN_spec (n : Int) (f : Nat) : ∀ j, j + f ≤ 31 → (∀ i : Int, 0 ≤ i → i < j → words i < n) → (∃ k : Int, (j : Int) ≤ k ∧ k ≤ j + f ∧ n ≤ words k) → Least n (findN n f j) := by
  induction f with
  | zero =>
    intro j hj h1 ⟨k, k1, k2, k3⟩
    obtain rfl : k = (j : Int) := by omega
    exact ⟨by unfold findN; omega, by unfold findN; omega, by unfold findN; exact k3, by unfold findN; exact h1⟩
  | succ f ih =>
    intro j hj h1 ⟨k, k1, k2, k3⟩
    unfold findN
    by_cases h : n ≤ words j
    · rw [if_pos h]; exact ⟨by omega, by omega, h, h1⟩
    · rw [if_neg h]
      refine ih (j + 1) (by omega) (fun i i0 i1 => ?_) ⟨k, ?_, by omega, k3⟩
      · by_cases hi : i < j
        · exact h1 i i0 hi
        · obtain rfl : i = (j : Int) := by omega
          omega
      · rcases Int.lt_or_le j k with h2 | h2
        · omega
        · obtain rfl : k = (j : Int) := by omega
          omega
def ofK (n : Int) : Int := if 1 ≤ n ∧ n ≤ 256 then (findN n 31 0 : Nat) else 0
def ofB (n : Int) : Bool := decide (1 ≤ n ∧ n ≤ 256)
theorem ofK_least (n : Int) (h1 : 1 ≤ n) (h2 : n ≤ 256) : Least n (ofK n) := by
  have h31 : n ≤ words 31 := by
    have : words 31 = 256 := by decide
    omega
  unfold ofK
  rw [if_pos ⟨h1, h2⟩]
  exact findN_spec n 31 0 (by omega) (fun i a b => by omega) ⟨31, by omega, by omega, h31⟩
theorem ofK_out (n : Int) (h : n < 1 ∨ 256 < n) : ofK n = 0 := by unfold ofK; rw [if_neg (by omega)]
theorem ofK_bd (n : Int) : 0 ≤ ofK n ∧ ofK n < 32 := by
  by_cases h : 1 ≤ n ∧ n ≤ 256
  · exact (ofK_least n h.1 h.2).bd
  · rw [ofK_out n (by omega)]; omega
theorem ofB_yes (n : Int) (h1 : 1 ≤ n) (h2 : n ≤ 256) : ofB n = true := by unfold ofB; simp; omega
theorem ofB_no (n : Int) (h : n < 1 ∨ 256 < n) : ofB n = false := by unfold ofB; simp; omega
theorem words31 : words 31 = 256 := by decide
/-- cells of a class -/
def cells (k : Int) : Int := if 0 ≤ k ∧ k < 32 then 512 / words k else 0
theorem cells_out (k : Int) (h : k < 0 ∨ 32 ≤ k) : cells k = 0 := by unfold cells; rw [if_neg (by omega)]
theorem cells_in (k : Int) (h : 0 ≤ k) (h2 : k < 32) : cells k = 512 / words k := by unfold cells; rw [if_pos ⟨h, h2⟩]
theorem cells_bd (k : Int) : 0 ≤ cells k ∧ cells k ≤ 256 := by
  unfold cells; split
  · rename_i h
    have := words_pos k h.1 h.2
    refine ⟨Int.ediv_nonneg (by omega) (by omega), ?_⟩
    have h3 : 512 / words k < 257 := (Int.ediv_lt_iff_lt_mul (show 0 < words k by omega)).2 (by omega)
    omega
  · omega
theorem cells_more (k n : Int) (h : 0 ≤ k) (h2 : k < 32) (hn : 0 ≤ n) : (n + 1) * words k ≤ 512 ↔ n < cells k := by
  have hp := words_pos k h h2
  rw [cells_in k h h2]
  constructor
  · intro hh
    have := (Int.le_ediv_iff_mul_le (show 0 < words k by omega)).2 hh
    omega
  · intro hh
    exact (Int.le_ediv_iff_mul_le (show 0 < words k by omega)).1 (by omega)
/-- an object's words -/
def size (p d : Int) : Int := if p < 0 ∨ p > 63 ∨ d < 0 ∨ d > 16384 then 0 else 1 + p + d
def rightB (k : Int) : Bool := decide (0 ≤ k ∧ k < 32)
theorem rightB_yes (k : Int) (h : 0 ≤ k) (h2 : k < 32) : rightB k = true := by unfold rightB; simp; omega
theorem rightB_no (k : Int) (h : k < 0 ∨ 32 ≤ k) : rightB k = false := by unfold rightB; simp; omega
def BelowAll (n j : Int) : Prop := ∀ i : Int, 0 ≤ i → i < j → words i < n
theorem BelowAll.zero (n : Int) : BelowAll n 0 := fun i a b => by omega
theorem BelowAll.succ {n j : Int} (h : BelowAll n j) (hj : words j < n) : BelowAll n (j + 1) := fun i a b => by
  by_cases hi : i < j
  · exact h i a hi
  · obtain rfl : i = j := by omega
    exact hj
theorem BelowAll.up {n j m : Int} (h : words m < n) (hm : m < 32) : BelowAll n (m + 1) := fun i a b => by
  have := words_mono i m a (by omega) hm
  omega
theorem BelowAll.least {n j : Int} (h : BelowAll n j) (h0 : 0 ≤ j) (h1 : j < 32) (h2 : n ≤ words j) : Least n j := ⟨h0, h1, h2, h⟩
def szCode (p d : Int) : Int := if p < 0 ∨ p > 63 ∨ d < 0 ∨ d > 16384 then 5 else 0
theorem size_bad (p d : Int) (h : p < 0 ∨ p > 63 ∨ d < 0 ∨ d > 16384) : size p d = 0 ∧ szCode p d = 5 := by unfold size szCode; rw [if_pos h, if_pos h]; exact ⟨rfl, rfl⟩
theorem size_good (p d : Int) (h1 : 0 ≤ p) (h2 : p ≤ 63) (h3 : 0 ≤ d) (h4 : d ≤ 16384) : size p d = 1 + p + d ∧ szCode p d = 0 := by unfold size szCode; rw [if_neg (by omega), if_neg (by omega)]; exact ⟨rfl, rfl⟩
theorem size_bd (p d : Int) : 0 ≤ size p d ∧ size p d ≤ 16448 := by unfold size; split <;> omega
end Go.Proofs.Ytlakbclnilakbaa.Cl
end

section
namespace Go.Proofs.Ytlakbclnilakbaa
open Go.RowKit
set_option maxHeartbeats 400000
set_option maxRecDepth 100000
theorem SZ_one : ∀ v ∈ (Cl.szs.map (Value.int .i64)).toArray.toList, v.oneCell' = true := by
 intro v hv
 obtain ⟨z, _, rfl⟩ := List.mem_map.1 (by simpa using hv)
 rfl
theorem isSome32 : (Try.prog.info? 202).isSome = true := by kernel_rfl
theorem sizes_any (w : World) : Calls Try.prog 152 #[] w fun e w' => e = .returned Cl.SZ ∧ Below w.heap.size w w' := by
 obtain ⟨i32, info32⟩ := Option.isSome_iff_exists.1 isSome32
 go_enter Try.func152, Try.ntmps152
 go_wp2_with (refine wpList_store_row (P := Try.prog) rfl 202 (.tmp 0) (.tmp 1) rfl w.heap.size _ (Cl.szs.map (Value.int .i64)).toArray 202 rfl rfl (heap_alloc_new w _) rfl info32 (by kernel_rfl) SZ_one ?_)
 exact bodyPost_ret (v := Cl.SZ) (results_cell_row rfl _ _ w.heap.size 202 (Cl.szs.map (Value.int .i64)).toArray (0, 0) _ rfl (setRow_heap _ _ _ _ _ _ (heap_alloc_new w _)) Try.underlying202 rfl (by kernel_rfl)) rfl ⟨rfl, below_setRow ((Below.refl _ _).alloc (Nat.le_refl _) _) (Nat.le_refl _) _⟩
/-- a row of the sizes lies at block g -/
def SzAt (w : World) (g : Nat) : Prop := ∀ k : Int, 0 ≤ k → k < 32 → w.cell? ⟨g, k.toNat, none⟩ = some (.int .i64 (Cl.words k))
theorem SzAt_new (w : World) : SzAt (w.alloc (.cells (Cl.szs.map (Value.int .i64)).toArray 3)) w.heap.size := fun k h h2 => by
 rw [Joins.cell_of_block (heap_alloc_new w _)]; exact Cl.SZ_at k h h2
theorem rSizes_any (w : World) : Calls Try.prog 85 #[] w fun e w' => e = .returned (.slice (some ⟨w.heap.size, 0, none⟩) 32 32) ∧ Below w.heap.size w w' ∧ SzAt w' w.heap.size := by
 go_enter Try.func85, Try.ntmps85
 go_wp2_with fail
 go_ret
 exact ⟨rfl, (Below.refl _ _).alloc (Nat.le_refl _) _, SzAt_new w⟩
theorem right_any (k : Int) (w : World) (h1 : -9223372036854775808 ≤ k) (h2 : k ≤ 9223372036854775807) : Calls Try.prog 52 #[.int .i64 k] w fun e w' => e = .returned (.bool (Cl.rightB k)) ∧ w = w' := by
 by_cases c1 : k < 0
 ·have e := Lib.hid (Cl.rightB_no k (.inl c1))
  go_enter Try.func52, Try.ntmps52
  go_wp2
  go_ret
  exact ⟨ret_bool e.out.symm, rfl⟩
 ·by_cases c2 : k < 32
  ·have e := Lib.hid (Cl.rightB_yes k (by omega) c2)
   go_enter Try.func52, Try.ntmps52
   go_wp2
   go_ret
   exact ⟨ret_bool (by rw [e.out]), rfl⟩
  ·have e := Lib.hid (Cl.rightB_no k (.inr (by omega)))
   go_enter Try.func52, Try.ntmps52
   go_wp2
   go_ret
   exact ⟨ret_bool (by rw [e.out]), rfl⟩
theorem words_any (k : Int) (w : World) (h1 : -9223372036854775808 ≤ k) (h2 : k ≤ 9223372036854775807) : Calls Try.prog 139 #[.int .i64 k] w fun e w' => e = .returned (.int .i64 (Cl.words k)) ∧ Below w.heap.size w w' := by
 by_cases c : 0 ≤ k ∧ k < 32
 ·obtain ⟨c1, c2⟩ := c
  have hr := Cl.rightB_yes k c1 c2
  obtain ⟨i0, hi0, _, _, _⟩ := info_parts info_int
  have hx : ∀ W, (Instr.index 202 Cl.SZ (.int .i64 k)).run Try.prog W = .ok (.int .i64 (Cl.words k)) W := fun W =>
   run_index_ints W Try.underlying202 Try.underlying3 (by kernel_rfl) hi0 _ _ _ _ c1 c2 (Cl.SZ_at k c1 c2)
  clear hi0
  go_enter Try.func139, Try.ntmps139
  go_wp2_with (first
   | (go_at_call 152; refine (sizes_any _).mono ?_; rintro e w1 ⟨rfl, hb⟩)
   | (go_at_call 52; refine (right_any _ _ (by omega) (by omega)).mono ?_; rintro e w' ⟨rfl, rfl⟩))
  go_ret
  exact ⟨rfl, hb⟩
 ·have e := Lib.hid (Cl.words_out k (by omega))
  have hr := Cl.rightB_no k (by omega)
  go_enter Try.func139, Try.ntmps139
  go_wp2_with (first
   | (go_at_call 52; refine (right_any _ _ (by omega) (by omega)).mono ?_; rintro e w' ⟨rfl, rfl⟩))
  go_ret
  exact ⟨ret_int e.out.symm, Below.refl _ _⟩
theorem rWords_any (k : Int) (w : World) (h1 : -9223372036854775808 ≤ k) (h2 : k ≤ 9223372036854775807) : Calls Try.prog 58 #[.int .i64 k] w fun e w' => e = .returned (.int .i64 (Cl.words k)) ∧ Below w.heap.size w w' := by
 by_cases c : 0 ≤ k ∧ k < 32
 ·obtain ⟨c1, c2⟩ := c
  go_enter Try.func58, Try.ntmps58
  go_wp2_with (first
   | (go_at_call 85; refine (rSizes_any _).mono ?_; rintro e w1 ⟨rfl, hb, hsz⟩; have hcw := hsz k c1 c2))
  go_ret
  exact ⟨rfl, hb⟩
 ·have e := Lib.hid (Cl.words_out k (by omega))
  by_cases c1 : k < 0
  ·go_enter Try.func58, Try.ntmps58
   go_wp2
   go_ret
   exact ⟨ret_int e.out.symm, Below.refl _ _⟩
  ·have c2 : 32 ≤ k := by omega
   go_enter Try.func58, Try.ntmps58
   go_wp2
   go_ret
   exact ⟨ret_int e.out.symm, Below.refl _ _⟩
theorem most_any (w : World) : Calls Try.prog 151 #[] w fun e w' => e = .returned (.int .i64 256) ∧ Below w.heap.size w w' := by
 have h31 := Cl.words31
 go_enter Try.func151, Try.ntmps151
 go_wp2_with (first
  | (go_at_call 139; refine (words_any _ _ (by omega) (by omega)).mono ?_; rintro e w1 ⟨rfl, hb⟩))
 go_ret
 exact ⟨ret_int (by first | rfl | exact h31), hb⟩
theorem cells_any (k : Int) (w : World) (h1 : -9223372036854775808 ≤ k) (h2 : k ≤ 9223372036854775807) : Calls Try.prog 153 #[.int .i64 k] w fun e w' => e = .returned (.int .i64 (Cl.cells k)) ∧ Below w.heap.size w w' := by
 by_cases c : 0 ≤ k ∧ k < 32
 ·obtain ⟨c1, c2⟩ := c
  have hr := Cl.rightB_yes k c1 c2
  have hp := Cl.words_pos k c1 c2
  have hbd := Cl.words_bd k
  have e := Lib.hid (Cl.cells_in k c1 c2)
  go_enter Try.func153, Try.ntmps153
  go_wp2_with (first
   | (go_at_call 139; refine (words_any _ _ (by omega) (by omega)).mono ?_; rintro e w1 ⟨rfl, hb⟩)
   | (go_at_call 52; refine (right_any _ _ (by omega) (by omega)).mono ?_; rintro e w' ⟨rfl, rfl⟩))
  go_ret
  exact ⟨ret_int e.out.symm, hb⟩
 ·have e := Lib.hid (Cl.cells_out k (by omega))
  have hr := Cl.rightB_no k (by omega)
  go_enter Try.func153, Try.ntmps153
  go_wp2_with (first
   | (go_at_call 52; refine (right_any _ _ (by omega) (by omega)).mono ?_; rintro e w' ⟨rfl, rfl⟩))
  go_ret
  exact ⟨ret_int e.out.symm, Below.refl _ _⟩
end Go.Proofs.Ytlakbclnilakbaa
end

section
namespace Go.Proofs.Ytlakbclnilakbaa
open Go.RowKit
set_option maxHeartbeats 400000
set_option maxRecDepth 100000
theorem of_any (n : Int) (w : World) (h1 : -9223372036854775808 ≤ n) (h2 : n ≤ 9223372036854775807) : Calls Try.prog 137 #[.int .i64 n] w fun e w' => e = .returned (.tuple #[.int .i64 (Cl.ofK n), .bool (Cl.ofB n)]) ∧ Below w.heap.size w w' := by
 by_cases c1 : n < 1
 ·have e := Lib.hid (Cl.ofK_out n (.inl c1))
  have e2 := Lib.hid (Cl.ofB_no n (.inl c1))
  go_enter Try.func137, Try.ntmps137
  go_wp2_with fail
  go_ret2
  exact ⟨ret_ib e.out.symm e2.out.symm, Below.refl _ _⟩
 ·by_cases c2 : 256 < n
  ·have e := Lib.hid (Cl.ofK_out n (.inr c2))
   have e2 := Lib.hid (Cl.ofB_no n (.inr c2))
   go_enter Try.func137, Try.ntmps137
   go_wp2_with fail
   refine (most_any _).mono ?_
   rintro e w1 ⟨rfl, hb⟩
   go_wp2_with fail
   go_ret2
   exact ⟨ret_ib e.out.symm e2.out.symm, hb⟩
  ·have hle := Lib.hid (Cl.ofK_least n (by omega) (by omega))
   have e2 := Lib.hid (Cl.ofB_yes n (by omega) (by omega))
   have h31 := Cl.words31
   go_enter Try.func137, Try.ntmps137
   go_wp2_with fail
   refine (most_any _).mono ?_
   rintro e w1 ⟨rfl, hb⟩
   go_wp2_with fail
   go_loopw [4, 5, 6] (fun a b _c wr => ∃ lo hi : Int, 0 ≤ lo ∧ lo ≤ hi ∧ hi ≤ 31 ∧ a = .int .i64 lo ∧ b = .int .i64 hi ∧ Cl.BelowAll n lo ∧ n ≤ Cl.words hi ∧ Below w.heap.size w wr) (fun a b _ _ => (intOf b - intOf a).toNat)
   case atStart => exact ⟨0, 31, by omega, by omega, by omega, rfl, rfl, Cl.BelowAll.zero n, by omega, hb⟩
   case round =>
    obtain ⟨lo, hi, r1, r2, r3, rfl, rfl, hall, hhi, hbe⟩ := hrel
    have hsz := hbe.size
    by_cases hlt : lo < hi
    ·obtain ⟨m, hm⟩ : ∃ m, (lo + hi) / 2 = m := ⟨_, rfl⟩
     have m1 : lo ≤ m := by omega
     have m2 : m < hi := by omega
     by_cases hw : n ≤ Cl.words m
     ·go_wp2_with (first
       | (go_at_call 139; refine (words_any _ _ (by omega) (by omega)).mono ?_; rintro e w2 ⟨rfl, hb2⟩))
      go_roundw
      case rel => exact ⟨lo, m, by omega, by omega, by omega, rfl, rfl, hall, hw, hbe.trans (hb2.mono hsz)⟩
      case measure => simp [intOf]; omega
     ·have hup := Cl.BelowAll.up (j := 0) (show Cl.words m < n by omega) (show m < 32 by omega)
      go_wp2_with (first
       | (go_at_call 139; refine (words_any _ _ (by omega) (by omega)).mono ?_; rintro e w2 ⟨rfl, hb2⟩))
      go_roundw
      case rel => exact ⟨m + 1, hi, by omega, by omega, by omega, rfl, rfl, hup, hhi, hbe.trans (hb2.mono hsz)⟩
      case measure => simp [intOf]; omega
    ·obtain rfl : lo = hi := by omega
     have hq := Lib.hid (hle.out.unique (hall.least r1 (by omega) hhi))
     go_wp2_with fail
     go_ret2
     exact ⟨ret_ib hq.out.symm e2.out.symm, hbe⟩
theorem size_any (p d : Int) (w : World) (h1 : -9223372036854775808 ≤ p) (h2 : p ≤ 9223372036854775807) (h3 : -9223372036854775808 ≤ d) (h4 : d ≤ 9223372036854775807) :
  Calls Try.prog 144 #[.int .i64 p, .int .i64 d] w fun e w' => e = .returned (.tuple #[.int .i64 (Cl.size p d), .int .i64 (Cl.szCode p d)]) ∧ w = w' := by
 by_cases c1 : p < 0
 ·have e := Lib.hid (Cl.size_bad p d (.inl c1))
  go_enter Try.func144, Try.ntmps144
  go_wp2_with fail
  go_ret2
  exact ⟨ret_ii e.out.1.symm e.out.2.symm, rfl⟩
 ·by_cases c2 : p > 63
  ·have e := Lib.hid (Cl.size_bad p d (.inr (.inl c2)))
   go_enter Try.func144, Try.ntmps144
   go_wp2_with fail
   go_ret2
   exact ⟨ret_ii e.out.1.symm e.out.2.symm, rfl⟩
  ·by_cases c3 : d < 0
   ·have e := Lib.hid (Cl.size_bad p d (.inr (.inr (.inl c3))))
    go_enter Try.func144, Try.ntmps144
    go_wp2_with fail
    go_ret2
    exact ⟨ret_ii e.out.1.symm e.out.2.symm, rfl⟩
   ·by_cases c4 : d > 16384
    ·have e := Lib.hid (Cl.size_bad p d (.inr (.inr (.inr c4))))
     go_enter Try.func144, Try.ntmps144
     go_wp2_with fail
     go_ret2
     exact ⟨ret_ii e.out.1.symm e.out.2.symm, rfl⟩
    ·have e := Lib.hid (Cl.size_good p d (by omega) (by omega) (by omega) (by omega))
     go_enter Try.func144, Try.ntmps144
     go_wp2_with fail
     go_ret2
     exact ⟨ret_ii e.out.1.symm e.out.2.symm, rfl⟩
end Go.Proofs.Ytlakbclnilakbaa
end

section
namespace Go.Proofs.Ytlakbclnilakbaa.Cr
open Go Go.RowKit
def step (s : Nat) : Nat := if s % 2 = 1 then (s / 2) ^^^ 3988292384 else s / 2
def steps : Nat → Nat → Nat
 | 0, s => s
 | n + 1, s => steps n (step s)
theorem div_xor (a b k : Nat) : (a ^^^ b) / 2 ^ k = a / 2 ^ k ^^^ b / 2 ^ k := by
 rw [← Nat.shiftRight_eq_div_pow, ← Nat.shiftRight_eq_div_pow, ← Nat.shiftRight_eq_div_pow, Nat.shiftRight_xor_distrib]
theorem mod2_bits : ∀ a < 2, ∀ b < 2, (a ^^^ b) % 2 = (a + b) % 2 := by decide
theorem mod2_xor (a b : Nat) : (a ^^^ b) % 2 = (a % 2 + b % 2) % 2 := by
 have e : (a ^^^ b) % 2 ^ 1 = a % 2 ^ 1 ^^^ b % 2 ^ 1 := by
  apply Nat.eq_of_testBit_eq
  intro i
  simp only [Nat.testBit_mod_two_pow, Nat.testBit_xor]
  by_cases h : i < 1 <;> simp [h]
 have h2 := mod2_bits (a % 2) (by omega) (b % 2) (by omega)
 rw [← h2, show (2 : Nat) = 2 ^ 1 from rfl, ← e, Nat.mod_mod]
theorem xor4 (a b c d : Nat) : (a ^^^ b) ^^^ (c ^^^ d) = (a ^^^ c) ^^^ (b ^^^ d) := by
 rw [Nat.xor_assoc, Nat.xor_assoc]; congr 1; rw [← Nat.xor_assoc, Nat.xor_comm b c, Nat.xor_assoc]
theorem step_xor (a b : Nat) : step (a ^^^ b) = step a ^^^ step b := by
 unfold step
 rw [mod2_xor, show (a ^^^ b) / 2 = a / 2 ^^^ b / 2 from div_xor a b 1]
 rcases Nat.mod_two_eq_zero_or_one a with ha | ha <;> rcases Nat.mod_two_eq_zero_or_one b with hb | hb <;> simp only [ha, hb] <;> simp
 ·rw [Nat.xor_assoc]
 ·rw [Nat.xor_assoc, Nat.xor_comm (b / 2), ← Nat.xor_assoc]
 ·rw [xor4, Nat.xor_self, Nat.xor_zero]
theorem steps_xor (n : Nat) : ∀ a b, steps n (a ^^^ b) = steps n a ^^^ steps n b := by
 induction n with
 | zero => intro a b; rfl
 | succ n ih => intro a b; rw [steps, step_xor, ih]; rfl
theorem steps_add (m n : Nat) : ∀ s, steps (m + n) s = steps n (steps m s) := by
 induction m with
 | zero => intro s; simp [steps]
 | succ m ih => intro s; rw [show m + 1 + n = (m + n) + 1 from by omega, steps, ih]; rfl
theorem steps_succ (n s : Nat) : steps (n + 1) s = step (steps n s) := by rw [steps_add n 1]; rfl
theorem step_even (q : Nat) : step (2 * q) = q := by unfold step; rw [if_neg (by omega)]; omega
theorem steps_16 (q : Nat) : steps 4 (16 * q) = q := by
 show step (step (step (step (16 * q)))) = q
 rw [show 16 * q = 2 * (8 * q) from by omega, step_even, show 8 * q = 2 * (4 * q) from by omega, step_even, show 4 * q = 2 * (2 * q) from by omega, step_even, step_even]
theorem split16 (s : Nat) : s = (16 * (s / 16)) ^^^ (s % 16) := by
 have h : 2 ^ 4 * (s / 16) + s % 16 = 2 ^ 4 * (s / 16) ||| s % 16 := Nat.two_pow_add_eq_or_of_lt (by omega) _
 have hx : 2 ^ 4 * (s / 16) ^^^ s % 16 = 2 ^ 4 * (s / 16) + s % 16 := by
  apply Nat.eq_of_testBit_eq
  intro i
  rw [h, Nat.testBit_xor, Nat.testBit_or, Nat.testBit_two_pow_mul]
  by_cases hi : 4 ≤ i
  ·have : (s % 16).testBit i = false := Nat.testBit_lt_two_pow (Nat.lt_of_lt_of_le (show s % 16 < 2 ^ 4 by omega) (Nat.pow_le_pow_right (by decide) hi))
   rw [this]; simp
  ·simp [hi]
 rw [show 16 * (s / 16) = 2 ^ 4 * (s / 16) from rfl, hx]
 omega
def tab (i : Nat) : Nat := steps 4 i
theorem steps4 (s : Nat) : steps 4 s = tab (s % 16) ^^^ (s / 16) := by
 conv => lhs; rw [split16 s]
 rw [steps_xor, steps_16, Nat.xor_comm]; rfl
theorem step_lt (s : Nat) (h : s < 4294967296) : step s < 4294967296 := by
 unfold step
 split
 ·exact Nat.xor_lt_two_pow (n := 32) (by omega) (by omega)
 ·omega
theorem steps_lt (n : Nat) : ∀ s, s < 4294967296 → steps n s < 4294967296 := by
 induction n with
 | zero => intro s h; exact h
 | succ n ih => intro s h; exact ih _ (step_lt s h)
/-- the code's two steps of a byte -/
theorem byte_steps (s b : Nat) (hb : b < 256) :
  tab ((tab ((s ^^^ b) % 16) ^^^ s / 16 ^^^ b / 16) % 16) ^^^ (tab ((s ^^^ b) % 16) ^^^ s / 16) / 16 = steps 8 (s ^^^ b) := by
 rw [show (8 : Nat) = 4 + 4 from rfl, steps_add, steps4 (s ^^^ b)]
 have e : (s ^^^ b) / 16 = s / 16 ^^^ b / 16 := div_xor s b 4
 rw [e, ← Nat.xor_assoc, steps4]
 have e2 : (tab ((s ^^^ b) % 16) ^^^ s / 16 ^^^ b / 16) / 16 = (tab ((s ^^^ b) % 16) ^^^ s / 16) / 16 ^^^ b / 16 / 16 := div_xor _ _ 4
 rw [e2, show b / 16 / 16 = 0 from by omega, Nat.xor_zero]
/-! the sums, as integers -/
def tabI (i : Int) : Int := (tab (i % 16).toNat : Nat)
theorem tab_lt (i : Nat) (h : i < 16) : tab i < 4294967296 := steps_lt 4 i (by omega)
theorem tabI_bd (i : Int) : 0 ≤ tabI i ∧ tabI i ≤ 4294967295 := by
 have := tab_lt (i % 16).toNat (by omega)
 unfold tabI; omega
def byte (s b : Int) : Int := (steps 8 (s.toNat ^^^ b.toNat) : Nat)
theorem byte_bd (s b : Int) (h0 : 0 ≤ s) (h1 : s ≤ 4294967295) (h2 : 0 ≤ b) (h3 : b ≤ 255) : 0 ≤ byte s b ∧ byte s b ≤ 4294967295 := by
 have hx : s.toNat ^^^ b.toNat < 4294967296 := Nat.xor_lt_two_pow (n := 32) (by omega) (by omega)
 have := steps_lt 8 _ hx
 unfold byte; omega
def run (s : Int) (l : List Int) : Int := l.foldl byte s
theorem run_snoc (s : Int) (l : List Int) (b : Int) : run s (l ++ [b]) = byte (run s l) b := by unfold run; rw [List.foldl_append]; rfl
theorem run_bd (l : List Int) : ∀ s : Int, 0 ≤ s → s ≤ 4294967295 → (∀ b ∈ l, 0 ≤ b ∧ b ≤ 255) → 0 ≤ run s l ∧ run s l ≤ 4294967295 := by
 induction l with
 | nil => intro s h0 h1 _; exact ⟨h0, h1⟩
 | cons b l ih =>
  intro s h0 h1 hb
  have hb0 := hb b (by simp)
  have h2 := byte_bd s b h0 h1 hb0.1 hb0.2
  exact ih _ h2.1 h2.2 (fun c hc => hb c (by simp [hc]))
def more (s : Int) (l : List Int) : Int := 4294967295 - run (4294967295 - s) l
theorem more_bd (s : Int) (l : List Int) (h0 : 0 ≤ s) (h1 : s ≤ 4294967295) (hb : ∀ b ∈ l, 0 ≤ b ∧ b ≤ 255) : 0 ≤ more s l ∧ more s l ≤ 4294967295 := by
 have := run_bd l (4294967295 - s) (by omega) (by omega) hb
 unfold more; omega
theorem low_xor (a b : Nat) : (a % 256 ^^^ b) % 16 = (a ^^^ b) % 16 := by
 apply Nat.eq_of_testBit_eq
 intro i
 rw [show (16 : Nat) = 2 ^ 4 from rfl, show (256 : Nat) = 2 ^ 8 from rfl, Nat.testBit_mod_two_pow, Nat.testBit_mod_two_pow, Nat.testBit_xor, Nat.testBit_xor, Nat.testBit_mod_two_pow]
 by_cases hi : i < 4
 ·have : i < 8 := by omega
  simp [this]
 ·simp [hi]
theorem half_code (s b : Int) (h0 : 0 ≤ s) (h1 : s ≤ 4294967295) (h2 : 0 ≤ b) (h3 : b ≤ 255) :
  bits .xor .u32 (tabI (bits .xor .u8 (s % 256) b)) (s / 16) = ((tab ((s.toNat ^^^ b.toNat) % 16) ^^^ s.toNat / 16 : Nat) : Int) ∧
  0 ≤ bits .xor .u8 (s % 256) b ∧ bits .xor .u8 (s % 256) b ≤ 255 := by
 obtain ⟨S, rfl⟩ := Int.eq_ofNat_of_zero_le h0
 obtain ⟨B, rfl⟩ := Int.eq_ofNat_of_zero_le h2
 have e1 : (S : Int) % 256 = ((S % 256 : Nat) : Int) := by omega
 rw [e1, u8_xor_nat _ _ (by omega) (by omega)]
 have hlt : S % 256 ^^^ B < 256 := Nat.xor_lt_two_pow (n := 8) (by omega) (by omega)
 refine ⟨?_, by omega, by omega⟩
 have e2 : tabI ((S % 256 ^^^ B : Nat) : Int) = ((tab ((S ^^^ B) % 16) : Nat) : Int) := by
  unfold tabI
  rw [show (((S % 256 ^^^ B : Nat) : Int) % 16).toNat = (S % 256 ^^^ B) % 16 from by omega, low_xor]
 rw [e2, show ((S : Int) / 16) = ((S / 16 : Nat) : Int) from by omega, u32_xor_nat _ _ (tab_lt _ (by omega)) (by omega)]
 rfl
theorem byte_code (s b s1 : Int) (h0 : 0 ≤ s) (h1 : s ≤ 4294967295) (h2 : 0 ≤ b) (h3 : b ≤ 255) (e1 : bits .xor .u32 (tabI (bits .xor .u8 (s % 256) b)) (s / 16) = s1) :
  bits .xor .u32 (tabI (bits .xor .u8 (s1 % 256) (b / 16))) (s1 / 16) = byte s b := by
 have hh := half_code s b h0 h1 h2 h3
 rw [hh.1] at e1
 have hs1 : tab ((s.toNat ^^^ b.toNat) % 16) ^^^ s.toNat / 16 < 4294967296 := Nat.xor_lt_two_pow (n := 32) (tab_lt _ (by omega)) (by omega)
 have h4 := half_code s1 (b / 16) (by omega) (by omega) (by omega) (by omega)
 rw [h4.1]
 unfold byte
 rw [← byte_steps _ _ (by omega), ← e1, show (b / 16).toNat = b.toNat / 16 from by omega, Int.toNat_natCast]
def stepI (s : Int) (n : Nat) : Int := (steps n s.toNat : Nat)
theorem stepI_bd (s : Int) (n : Nat) (h0 : 0 ≤ s) (h1 : s ≤ 4294967295) : 0 ≤ stepI s n ∧ stepI s n ≤ 4294967295 := by
 have := steps_lt n s.toNat (by omega)
 unfold stepI; omega
theorem stepI_zero (s : Int) (h0 : 0 ≤ s) : stepI s 0 = s := by unfold stepI steps; omega
theorem stepI_odd (s : Int) (n : Nat) (h0 : 0 ≤ s) (h1 : s ≤ 4294967295) (h : stepI s n % 2 = 1) : bits .xor .u32 (stepI s n / 2) 3988292384 = stepI s (n + 1) := by
 have := steps_lt n s.toNat (by omega)
 unfold stepI at *
 rw [steps_succ]
 generalize steps n s.toNat = r at *
 have e : ((r : Int) / 2) = ((r / 2 : Nat) : Int) := by omega
 have e2 := u32_xor_nat (r / 2) 3988292384 (by omega) (by decide)
 unfold step
 rw [if_pos (by omega), e, ← e2]; rfl
theorem stepI_even (s : Int) (n : Nat) (h0 : 0 ≤ s) (h1 : s ≤ 4294967295) (h : ¬ stepI s n % 2 = 1) : stepI s n / 2 = stepI s (n + 1) := by
 unfold stepI at *
 rw [steps_succ]
 generalize steps n s.toNat = r at *
 unfold step
 rw [if_neg (by omega)]; omega
theorem xor_byte (s b : Int) (h0 : 0 ≤ s) (h1 : s ≤ 4294967295) (h2 : 0 ≤ b) (h3 : b ≤ 255) : 0 ≤ bits .xor .u32 s b ∧ bits .xor .u32 s b ≤ 4294967295 ∧ stepI (bits .xor .u32 s b) 8 = byte s b := by
 obtain ⟨S, rfl⟩ := Int.eq_ofNat_of_zero_le h0
 obtain ⟨B, rfl⟩ := Int.eq_ofNat_of_zero_le h2
 have hlt : S ^^^ B < 4294967296 := Nat.xor_lt_two_pow (n := 32) (by omega) (by omega)
 rw [u32_xor_nat _ _ (by omega) (by omega)]
 refine ⟨by omega, by omega, ?_⟩
 unfold stepI byte; simp only [Int.toNat_natCast]
theorem half_bd (s b s1 : Int) (h0 : 0 ≤ s) (h1 : s ≤ 4294967295) (h2 : 0 ≤ b) (h3 : b ≤ 255) (e1 : bits .xor .u32 (tabI (bits .xor .u8 (s % 256) b)) (s / 16) = s1) : 0 ≤ s1 ∧ s1 ≤ 4294967295 := by
 have hh := half_code s b h0 h1 h2 h3
 rw [hh.1] at e1
 have hs1 : tab ((s.toNat ^^^ b.toNat) % 16) ^^^ s.toNat / 16 < 4294967296 := Nat.xor_lt_two_pow (n := 32) (tab_lt _ (by omega)) (by omega)
 omega
theorem not_code (s : Int) (h0 : 0 ≤ s) (h1 : s ≤ 4294967295) : bits .xor .u32 IntKind.u32.max s = 4294967295 - s := by
 obtain ⟨S, rfl⟩ := Int.eq_ofNat_of_zero_le h0
 have e : IntKind.u32.max = ((4294967295 : Nat) : Int) := by decide
 rw [e, u32_xor_nat _ _ (by decide) (by omega)]
 have h : 4294967295 ^^^ S = 2 ^ 32 - (S + 1) := by
  apply Nat.eq_of_testBit_eq
  intro i
  rw [Nat.testBit_xor, Nat.testBit_two_pow_sub_succ (by omega), show (4294967295 : Nat) = 2 ^ 32 - 1 from rfl, Nat.testBit_two_pow_sub_one]
  by_cases hi : i < 32
  ·simp [hi]
  ·have : S.testBit i = false := Nat.testBit_lt_two_pow (Nat.lt_of_lt_of_le (show S < 2 ^ 32 by omega) (Nat.pow_le_pow_right (by decide) (by omega)))
   rw [this]; simp [hi]
 rw [h]; omega
theorem more_code (s : Int) (l : List Int) (h0 : 0 ≤ s) (h1 : s ≤ 4294967295) (hb : ∀ b ∈ l, 0 ≤ b ∧ b ≤ 255) : bits .xor .u32 IntKind.u32.max (run (4294967295 - s) l) = more s l := by
 have := run_bd l (4294967295 - s) (by omega) (by omega) hb
 rw [not_code _ this.1 this.2]; rfl
end Go.Proofs.Ytlakbclnilakbaa.Cr
end

section
namespace Go.Proofs.Ytlakbclnilakbaa
open Go.RowKit
set_option maxHeartbeats 400000
theorem tab_i0 (w : World) : (Instr.index 217 (.agg #[.int .u32 0, .int .u32 498536548, .int .u32 997073096, .int .u32 651767980, .int .u32 1994146192, .int .u32 1802195444, .int .u32 1303535960, .int .u32 1342533948, .int .u32 3988292384, .int .u32 4027552580, .int .u32 3604390888, .int .u32 3412177804, .int .u32 2607071920, .int .u32 2262029012, .int .u32 2685067896, .int .u32 3183342108]) (.int .u8 0)).run Try.prog w = .ok (.int .u32 0) w := by kernel_rfl
theorem tab_i1 (w : World) : (Instr.index 217 (.agg #[.int .u32 0, .int .u32 498536548, .int .u32 997073096, .int .u32 651767980, .int .u32 1994146192, .int .u32 1802195444, .int .u32 1303535960, .int .u32 1342533948, .int .u32 3988292384, .int .u32 4027552580, .int .u32 3604390888, .int .u32 3412177804, .int .u32 2607071920, .int .u32 2262029012, .int .u32 2685067896, .int .u32 3183342108]) (.int .u8 1)).run Try.prog w = .ok (.int .u32 498536548) w := by kernel_rfl
theorem tab_i2 (w : World) : (Instr.index 217 (.agg #[.int .u32 0, .int .u32 498536548, .int .u32 997073096, .int .u32 651767980, .int .u32 1994146192, .int .u32 1802195444, .int .u32 1303535960, .int .u32 1342533948, .int .u32 3988292384, .int .u32 4027552580, .int .u32 3604390888, .int .u32 3412177804, .int .u32 2607071920, .int .u32 2262029012, .int .u32 2685067896, .int .u32 3183342108]) (.int .u8 2)).run Try.prog w = .ok (.int .u32 997073096) w := by kernel_rfl
theorem tab_i3 (w : World) : (Instr.index 217 (.agg #[.int .u32 0, .int .u32 498536548, .int .u32 997073096, .int .u32 651767980, .int .u32 1994146192, .int .u32 1802195444, .int .u32 1303535960, .int .u32 1342533948, .int .u32 3988292384, .int .u32 4027552580, .int .u32 3604390888, .int .u32 3412177804, .int .u32 2607071920, .int .u32 2262029012, .int .u32 2685067896, .int .u32 3183342108]) (.int .u8 3)).run Try.prog w = .ok (.int .u32 651767980) w := by kernel_rfl
theorem tab_i4 (w : World) : (Instr.index 217 (.agg #[.int .u32 0, .int .u32 498536548, .int .u32 997073096, .int .u32 651767980, .int .u32 1994146192, .int .u32 1802195444, .int .u32 1303535960, .int .u32 1342533948, .int .u32 3988292384, .int .u32 4027552580, .int .u32 3604390888, .int .u32 3412177804, .int .u32 2607071920, .int .u32 2262029012, .int .u32 2685067896, .int .u32 3183342108]) (.int .u8 4)).run Try.prog w = .ok (.int .u32 1994146192) w := by kernel_rfl
theorem tab_i5 (w : World) : (Instr.index 217 (.agg #[.int .u32 0, .int .u32 498536548, .int .u32 997073096, .int .u32 651767980, .int .u32 1994146192, .int .u32 1802195444, .int .u32 1303535960, .int .u32 1342533948, .int .u32 3988292384, .int .u32 4027552580, .int .u32 3604390888, .int .u32 3412177804, .int .u32 2607071920, .int .u32 2262029012, .int .u32 2685067896, .int .u32 3183342108]) (.int .u8 5)).run Try.prog w = .ok (.int .u32 1802195444) w := by kernel_rfl
theorem tab_i6 (w : World) : (Instr.index 217 (.agg #[.int .u32 0, .int .u32 498536548, .int .u32 997073096, .int .u32 651767980, .int .u32 1994146192, .int .u32 1802195444, .int .u32 1303535960, .int .u32 1342533948, .int .u32 3988292384, .int .u32 4027552580, .int .u32 3604390888, .int .u32 3412177804, .int .u32 2607071920, .int .u32 2262029012, .int .u32 2685067896, .int .u32 3183342108]) (.int .u8 6)).run Try.prog w = .ok (.int .u32 1303535960) w := by kernel_rfl
theorem tab_i7 (w : World) : (Instr.index 217 (.agg #[.int .u32 0, .int .u32 498536548, .int .u32 997073096, .int .u32 651767980, .int .u32 1994146192, .int .u32 1802195444, .int .u32 1303535960, .int .u32 1342533948, .int .u32 3988292384, .int .u32 4027552580, .int .u32 3604390888, .int .u32 3412177804, .int .u32 2607071920, .int .u32 2262029012, .int .u32 2685067896, .int .u32 3183342108]) (.int .u8 7)).run Try.prog w = .ok (.int .u32 1342533948) w := by kernel_rfl
theorem tab_i8 (w : World) : (Instr.index 217 (.agg #[.int .u32 0, .int .u32 498536548, .int .u32 997073096, .int .u32 651767980, .int .u32 1994146192, .int .u32 1802195444, .int .u32 1303535960, .int .u32 1342533948, .int .u32 3988292384, .int .u32 4027552580, .int .u32 3604390888, .int .u32 3412177804, .int .u32 2607071920, .int .u32 2262029012, .int .u32 2685067896, .int .u32 3183342108]) (.int .u8 8)).run Try.prog w = .ok (.int .u32 3988292384) w := by kernel_rfl
theorem tab_i9 (w : World) : (Instr.index 217 (.agg #[.int .u32 0, .int .u32 498536548, .int .u32 997073096, .int .u32 651767980, .int .u32 1994146192, .int .u32 1802195444, .int .u32 1303535960, .int .u32 1342533948, .int .u32 3988292384, .int .u32 4027552580, .int .u32 3604390888, .int .u32 3412177804, .int .u32 2607071920, .int .u32 2262029012, .int .u32 2685067896, .int .u32 3183342108]) (.int .u8 9)).run Try.prog w = .ok (.int .u32 4027552580) w := by kernel_rfl
theorem tab_i10 (w : World) : (Instr.index 217 (.agg #[.int .u32 0, .int .u32 498536548, .int .u32 997073096, .int .u32 651767980, .int .u32 1994146192, .int .u32 1802195444, .int .u32 1303535960, .int .u32 1342533948, .int .u32 3988292384, .int .u32 4027552580, .int .u32 3604390888, .int .u32 3412177804, .int .u32 2607071920, .int .u32 2262029012, .int .u32 2685067896, .int .u32 3183342108]) (.int .u8 10)).run Try.prog w = .ok (.int .u32 3604390888) w := by kernel_rfl
theorem tab_i11 (w : World) : (Instr.index 217 (.agg #[.int .u32 0, .int .u32 498536548, .int .u32 997073096, .int .u32 651767980, .int .u32 1994146192, .int .u32 1802195444, .int .u32 1303535960, .int .u32 1342533948, .int .u32 3988292384, .int .u32 4027552580, .int .u32 3604390888, .int .u32 3412177804, .int .u32 2607071920, .int .u32 2262029012, .int .u32 2685067896, .int .u32 3183342108]) (.int .u8 11)).run Try.prog w = .ok (.int .u32 3412177804) w := by kernel_rfl
theorem tab_i12 (w : World) : (Instr.index 217 (.agg #[.int .u32 0, .int .u32 498536548, .int .u32 997073096, .int .u32 651767980, .int .u32 1994146192, .int .u32 1802195444, .int .u32 1303535960, .int .u32 1342533948, .int .u32 3988292384, .int .u32 4027552580, .int .u32 3604390888, .int .u32 3412177804, .int .u32 2607071920, .int .u32 2262029012, .int .u32 2685067896, .int .u32 3183342108]) (.int .u8 12)).run Try.prog w = .ok (.int .u32 2607071920) w := by kernel_rfl
theorem tab_i13 (w : World) : (Instr.index 217 (.agg #[.int .u32 0, .int .u32 498536548, .int .u32 997073096, .int .u32 651767980, .int .u32 1994146192, .int .u32 1802195444, .int .u32 1303535960, .int .u32 1342533948, .int .u32 3988292384, .int .u32 4027552580, .int .u32 3604390888, .int .u32 3412177804, .int .u32 2607071920, .int .u32 2262029012, .int .u32 2685067896, .int .u32 3183342108]) (.int .u8 13)).run Try.prog w = .ok (.int .u32 2262029012) w := by kernel_rfl
theorem tab_i14 (w : World) : (Instr.index 217 (.agg #[.int .u32 0, .int .u32 498536548, .int .u32 997073096, .int .u32 651767980, .int .u32 1994146192, .int .u32 1802195444, .int .u32 1303535960, .int .u32 1342533948, .int .u32 3988292384, .int .u32 4027552580, .int .u32 3604390888, .int .u32 3412177804, .int .u32 2607071920, .int .u32 2262029012, .int .u32 2685067896, .int .u32 3183342108]) (.int .u8 14)).run Try.prog w = .ok (.int .u32 2685067896) w := by kernel_rfl
theorem tab_i15 (w : World) : (Instr.index 217 (.agg #[.int .u32 0, .int .u32 498536548, .int .u32 997073096, .int .u32 651767980, .int .u32 1994146192, .int .u32 1802195444, .int .u32 1303535960, .int .u32 1342533948, .int .u32 3988292384, .int .u32 4027552580, .int .u32 3604390888, .int .u32 3412177804, .int .u32 2607071920, .int .u32 2262029012, .int .u32 2685067896, .int .u32 3183342108]) (.int .u8 15)).run Try.prog w = .ok (.int .u32 3183342108) w := by kernel_rfl
theorem table_at0 (i : Int) (w : World) (h1 : 0 ≤ i) (h2 : i ≤ 255) (hc : i % 16 = 0) :
  Calls Try.prog 174 #[.int .u8 i] w fun e w' => e = .returned (.int .u32 (Cr.tabI i)) ∧ w = w' := by
 have hb : bits .and .u8 i 15 = 0 := by rw [u8_and15 (x := i) h1 (by omega), hc]
 have hv : Cr.tabI i = 0 := by unfold Cr.tabI; rw [hc]; decide
 have hx := tab_i0
 rw [hv]
 clear hv hc
 go_enter Try.func174, Try.ntmps174
 go_wp2_with fail
 go_ret
 exact ⟨rfl, rfl⟩
theorem table_at1 (i : Int) (w : World) (h1 : 0 ≤ i) (h2 : i ≤ 255) (hc : i % 16 = 1) :
  Calls Try.prog 174 #[.int .u8 i] w fun e w' => e = .returned (.int .u32 (Cr.tabI i)) ∧ w = w' := by
 have hb : bits .and .u8 i 15 = 1 := by rw [u8_and15 (x := i) h1 (by omega), hc]
 have hv : Cr.tabI i = 498536548 := by unfold Cr.tabI; rw [hc]; decide
 have hx := tab_i1
 rw [hv]
 clear hv hc
 go_enter Try.func174, Try.ntmps174
 go_wp2_with fail
 go_ret
 exact ⟨rfl, rfl⟩
theorem table_at2 (i : Int) (w : World) (h1 : 0 ≤ i) (h2 : i ≤ 255) (hc : i % 16 = 2) :
  Calls Try.prog 174 #[.int .u8 i] w fun e w' => e = .returned (.int .u32 (Cr.tabI i)) ∧ w = w' := by
 have hb : bits .and .u8 i 15 = 2 := by rw [u8_and15 (x := i) h1 (by omega), hc]
 have hv : Cr.tabI i = 997073096 := by unfold Cr.tabI; rw [hc]; decide
 have hx := tab_i2
 rw [hv]
 clear hv hc
 go_enter Try.func174, Try.ntmps174
 go_wp2_with fail
 go_ret
 exact ⟨rfl, rfl⟩
theorem table_at3 (i : Int) (w : World) (h1 : 0 ≤ i) (h2 : i ≤ 255) (hc : i % 16 = 3) :
  Calls Try.prog 174 #[.int .u8 i] w fun e w' => e = .returned (.int .u32 (Cr.tabI i)) ∧ w = w' := by
 have hb : bits .and .u8 i 15 = 3 := by rw [u8_and15 (x := i) h1 (by omega), hc]
 have hv : Cr.tabI i = 651767980 := by unfold Cr.tabI; rw [hc]; decide
 have hx := tab_i3
 rw [hv]
 clear hv hc
 go_enter Try.func174, Try.ntmps174
 go_wp2_with fail
 go_ret
 exact ⟨rfl, rfl⟩
theorem table_at4 (i : Int) (w : World) (h1 : 0 ≤ i) (h2 : i ≤ 255) (hc : i % 16 = 4) :
  Calls Try.prog 174 #[.int .u8 i] w fun e w' => e = .returned (.int .u32 (Cr.tabI i)) ∧ w = w' := by
 have hb : bits .and .u8 i 15 = 4 := by rw [u8_and15 (x := i) h1 (by omega), hc]
 have hv : Cr.tabI i = 1994146192 := by unfold Cr.tabI; rw [hc]; decide
 have hx := tab_i4
 rw [hv]
 clear hv hc
 go_enter Try.func174, Try.ntmps174
 go_wp2_with fail
 go_ret
 exact ⟨rfl, rfl⟩
theorem table_at5 (i : Int) (w : World) (h1 : 0 ≤ i) (h2 : i ≤ 255) (hc : i % 16 = 5) :
  Calls Try.prog 174 #[.int .u8 i] w fun e w' => e = .returned (.int .u32 (Cr.tabI i)) ∧ w = w' := by
 have hb : bits .and .u8 i 15 = 5 := by rw [u8_and15 (x := i) h1 (by omega), hc]
 have hv : Cr.tabI i = 1802195444 := by unfold Cr.tabI; rw [hc]; decide
 have hx := tab_i5
 rw [hv]
 clear hv hc
 go_enter Try.func174, Try.ntmps174
 go_wp2_with fail
 go_ret
 exact ⟨rfl, rfl⟩
theorem table_at6 (i : Int) (w : World) (h1 : 0 ≤ i) (h2 : i ≤ 255) (hc : i % 16 = 6) :
  Calls Try.prog 174 #[.int .u8 i] w fun e w' => e = .returned (.int .u32 (Cr.tabI i)) ∧ w = w' := by
 have hb : bits .and .u8 i 15 = 6 := by rw [u8_and15 (x := i) h1 (by omega), hc]
 have hv : Cr.tabI i = 1303535960 := by unfold Cr.tabI; rw [hc]; decide
 have hx := tab_i6
 rw [hv]
 clear hv hc
 go_enter Try.func174, Try.ntmps174
 go_wp2_with fail
 go_ret
 exact ⟨rfl, rfl⟩
theorem table_at7 (i : Int) (w : World) (h1 : 0 ≤ i) (h2 : i ≤ 255) (hc : i % 16 = 7) :
  Calls Try.prog 174 #[.int .u8 i] w fun e w' => e = .returned (.int .u32 (Cr.tabI i)) ∧ w = w' := by
 have hb : bits .and .u8 i 15 = 7 := by rw [u8_and15 (x := i) h1 (by omega), hc]
 have hv : Cr.tabI i = 1342533948 := by unfold Cr.tabI; rw [hc]; decide
 have hx := tab_i7
 rw [hv]
 clear hv hc
 go_enter Try.func174, Try.ntmps174
 go_wp2_with fail
 go_ret
 exact ⟨rfl, rfl⟩
theorem table_at8 (i : Int) (w : World) (h1 : 0 ≤ i) (h2 : i ≤ 255) (hc : i % 16 = 8) :
  Calls Try.prog 174 #[.int .u8 i] w fun e w' => e = .returned (.int .u32 (Cr.tabI i)) ∧ w = w' := by
 have hb : bits .and .u8 i 15 = 8 := by rw [u8_and15 (x := i) h1 (by omega), hc]
 have hv : Cr.tabI i = 3988292384 := by unfold Cr.tabI; rw [hc]; decide
 have hx := tab_i8
 rw [hv]
 clear hv hc
 go_enter Try.func174, Try.ntmps174
 go_wp2_with fail
 go_ret
 exact ⟨rfl, rfl⟩
theorem table_at9 (i : Int) (w : World) (h1 : 0 ≤ i) (h2 : i ≤ 255) (hc : i % 16 = 9) :
  Calls Try.prog 174 #[.int .u8 i] w fun e w' => e = .returned (.int .u32 (Cr.tabI i)) ∧ w = w' := by
 have hb : bits .and .u8 i 15 = 9 := by rw [u8_and15 (x := i) h1 (by omega), hc]
 have hv : Cr.tabI i = 4027552580 := by unfold Cr.tabI; rw [hc]; decide
 have hx := tab_i9
 rw [hv]
 clear hv hc
 go_enter Try.func174, Try.ntmps174
 go_wp2_with fail
 go_ret
 exact ⟨rfl, rfl⟩
theorem table_at10 (i : Int) (w : World) (h1 : 0 ≤ i) (h2 : i ≤ 255) (hc : i % 16 = 10) :
  Calls Try.prog 174 #[.int .u8 i] w fun e w' => e = .returned (.int .u32 (Cr.tabI i)) ∧ w = w' := by
 have hb : bits .and .u8 i 15 = 10 := by rw [u8_and15 (x := i) h1 (by omega), hc]
 have hv : Cr.tabI i = 3604390888 := by unfold Cr.tabI; rw [hc]; decide
 have hx := tab_i10
 rw [hv]
 clear hv hc
 go_enter Try.func174, Try.ntmps174
 go_wp2_with fail
 go_ret
 exact ⟨rfl, rfl⟩
theorem table_at11 (i : Int) (w : World) (h1 : 0 ≤ i) (h2 : i ≤ 255) (hc : i % 16 = 11) :
  Calls Try.prog 174 #[.int .u8 i] w fun e w' => e = .returned (.int .u32 (Cr.tabI i)) ∧ w = w' := by
 have hb : bits .and .u8 i 15 = 11 := by rw [u8_and15 (x := i) h1 (by omega), hc]
 have hv : Cr.tabI i = 3412177804 := by unfold Cr.tabI; rw [hc]; decide
 have hx := tab_i11
 rw [hv]
 clear hv hc
 go_enter Try.func174, Try.ntmps174
 go_wp2_with fail
 go_ret
 exact ⟨rfl, rfl⟩
theorem table_at12 (i : Int) (w : World) (h1 : 0 ≤ i) (h2 : i ≤ 255) (hc : i % 16 = 12) :
  Calls Try.prog 174 #[.int .u8 i] w fun e w' => e = .returned (.int .u32 (Cr.tabI i)) ∧ w = w' := by
 have hb : bits .and .u8 i 15 = 12 := by rw [u8_and15 (x := i) h1 (by omega), hc]
 have hv : Cr.tabI i = 2607071920 := by unfold Cr.tabI; rw [hc]; decide
 have hx := tab_i12
 rw [hv]
 clear hv hc
 go_enter Try.func174, Try.ntmps174
 go_wp2_with fail
 go_ret
 exact ⟨rfl, rfl⟩
theorem table_at13 (i : Int) (w : World) (h1 : 0 ≤ i) (h2 : i ≤ 255) (hc : i % 16 = 13) :
  Calls Try.prog 174 #[.int .u8 i] w fun e w' => e = .returned (.int .u32 (Cr.tabI i)) ∧ w = w' := by
 have hb : bits .and .u8 i 15 = 13 := by rw [u8_and15 (x := i) h1 (by omega), hc]
 have hv : Cr.tabI i = 2262029012 := by unfold Cr.tabI; rw [hc]; decide
 have hx := tab_i13
 rw [hv]
 clear hv hc
 go_enter Try.func174, Try.ntmps174
 go_wp2_with fail
 go_ret
 exact ⟨rfl, rfl⟩
theorem table_at14 (i : Int) (w : World) (h1 : 0 ≤ i) (h2 : i ≤ 255) (hc : i % 16 = 14) :
  Calls Try.prog 174 #[.int .u8 i] w fun e w' => e = .returned (.int .u32 (Cr.tabI i)) ∧ w = w' := by
 have hb : bits .and .u8 i 15 = 14 := by rw [u8_and15 (x := i) h1 (by omega), hc]
 have hv : Cr.tabI i = 2685067896 := by unfold Cr.tabI; rw [hc]; decide
 have hx := tab_i14
 rw [hv]
 clear hv hc
 go_enter Try.func174, Try.ntmps174
 go_wp2_with fail
 go_ret
 exact ⟨rfl, rfl⟩
theorem table_at15 (i : Int) (w : World) (h1 : 0 ≤ i) (h2 : i ≤ 255) (hc : i % 16 = 15) :
  Calls Try.prog 174 #[.int .u8 i] w fun e w' => e = .returned (.int .u32 (Cr.tabI i)) ∧ w = w' := by
 have hb : bits .and .u8 i 15 = 15 := by rw [u8_and15 (x := i) h1 (by omega), hc]
 have hv : Cr.tabI i = 3183342108 := by unfold Cr.tabI; rw [hc]; decide
 have hx := tab_i15
 rw [hv]
 clear hv hc
 go_enter Try.func174, Try.ntmps174
 go_wp2_with fail
 go_ret
 exact ⟨rfl, rfl⟩
theorem table_any (i : Int) (w : World) (h1 : 0 ≤ i) (h2 : i ≤ 255) :
  Calls Try.prog 174 #[.int .u8 i] w fun e w' => e = .returned (.int .u32 (Cr.tabI i)) ∧ w = w' := by
 rcases (show i % 16 = 0 ∨ i % 16 = 1 ∨ i % 16 = 2 ∨ i % 16 = 3 ∨ i % 16 = 4 ∨ i % 16 = 5 ∨ i % 16 = 6 ∨ i % 16 = 7 ∨ i % 16 = 8 ∨ i % 16 = 9 ∨ i % 16 = 10 ∨ i % 16 = 11 ∨ i % 16 = 12 ∨ i % 16 = 13 ∨ i % 16 = 14 ∨ i % 16 = 15 from by omega) with
  h | h | h | h | h | h | h | h | h | h | h | h | h | h | h | h
 ·exact table_at0 i w h1 h2 h
 ·exact table_at1 i w h1 h2 h
 ·exact table_at2 i w h1 h2 h
 ·exact table_at3 i w h1 h2 h
 ·exact table_at4 i w h1 h2 h
 ·exact table_at5 i w h1 h2 h
 ·exact table_at6 i w h1 h2 h
 ·exact table_at7 i w h1 h2 h
 ·exact table_at8 i w h1 h2 h
 ·exact table_at9 i w h1 h2 h
 ·exact table_at10 i w h1 h2 h
 ·exact table_at11 i w h1 h2 h
 ·exact table_at12 i w h1 h2 h
 ·exact table_at13 i w h1 h2 h
 ·exact table_at14 i w h1 h2 h
 ·exact table_at15 i w h1 h2 h
end Go.Proofs.Ytlakbclnilakbaa
end

section
namespace Go.Proofs.Ytlakbclnilakbaa
open Go.RowKit
set_option maxHeartbeats 400000
theorem more_any (s : Int) (A : Option Addr) (len cap : Nat) (xs : List Int) (B : Nat) (w : World) (h1 : 0 ≤ s) (h2 : s ≤ 4294967295) (hr : RowAt w B A len (xs.map (Value.int .u8))) (hi : Ints .u8 xs) (hl : len ≤ 9223372036854775807) :
  Calls Try.prog 173 #[.int .u32 s, .slice A len cap] w fun e w' => e = .returned (.int .u32 (Cr.more s xs)) ∧ w = w' := by
 have hb : ∀ b ∈ xs, 0 ≤ b ∧ b ≤ 255 := fun b hb => bounds_u8 (hi b hb)
 have HB := Lib.hid hb
 have HI := Lib.hid hi
 have HR := Lib.hid hr
 have hlen : xs.length = len := by simpa using hr.1
 have HL := Lib.hid hlen
 clear hb hi hr hlen
 have hn := Cr.not_code s h1 h2
 have hfin := Lib.hid (Cr.more_code s xs h1 h2 HB.out)
 go_enter Try.func173, Try.ntmps173
 go_wp2_with fail
 go_loop [0, 6, 11] (fun s' _u t => ∃ j : Nat, j ≤ len ∧ t = .int .i64 j ∧ s' = .int .u32 (Cr.run (4294967295 - s) (xs.take j))) (fun _ _ t => len - (intOf t).toNat)
 case atStart => exact ⟨0, by omega, rfl, rfl⟩
 case round =>
  obtain ⟨j, hj, rfl, rfl⟩ := hrel
  have hbd := Cr.run_bd (xs.take j) (4294967295 - s) (by omega) (by omega) (fun b hb => HB.out b (List.mem_of_mem_take hb))
  by_cases hlt : j < len
  ·obtain ⟨b, off, z, rfl, hbl, hz, hwz, hc⟩ := HR.out.int HI.out hlt
   have hzb := bounds_u8 hwz
   have HN := Lib.hid (Cr.run_snoc (4294967295 - s) (xs.take j) z)
   have HT := Lib.hid (take_succ_of hz)
   clear hz hwz
   generalize Cr.run (4294967295 - s) (xs.take j) = r at *
   have hh := Cr.half_code r z hbd.1 hbd.2 hzb.1 hzb.2
   obtain ⟨s1, hs1⟩ : ∃ s1, bits .xor .u32 (Cr.tabI (bits .xor .u8 (r % 256) z)) (r / 16) = s1 := ⟨_, rfl⟩
   have hsb := Cr.half_bd r z s1 hbd.1 hbd.2 hzb.1 hzb.2 hs1
   have hcode := Cr.byte_code r z s1 hbd.1 hbd.2 hzb.1 hzb.2 hs1
   have hh2 := (Cr.half_code s1 (z / 16) hsb.1 hsb.2 (by omega) (by omega)).2
   have hh1 := hh.2
   clear hh
   have t1 := Cr.tabI_bd (bits .xor .u8 (r % 256) z)
   go_wp2_with (first
   | (go_at_call 174; refine (table_any _ _ (by omega) (by omega)).mono ?_; rintro e w' ⟨rfl, rfl⟩))
   go_round
   case rel => exact ⟨j + 1, by omega, by go_num, by rw [HT.out, HN.out]⟩
   case measure => simp [intOf]; omega
  ·go_wp2_with fail
   go_ret
   exact ⟨ret_int (by rw [← hfin.out]; congr 2; rw [List.take_of_length_le (by rw [HL.out]; omega)]), rfl⟩
theorem rMore_any (s : Int) (A : Option Addr) (len cap : Nat) (xs : List Int) (B : Nat) (w : World) (h1 : 0 ≤ s) (h2 : s ≤ 4294967295) (hr : RowAt w B A len (xs.map (Value.int .u8))) (hi : Ints .u8 xs) (hl : len ≤ 9223372036854775807) :
  Calls Try.prog 134 #[.int .u32 s, .slice A len cap] w fun e w' => e = .returned (.int .u32 (Cr.more s xs)) ∧ w = w' := by
 have hb : ∀ b ∈ xs, 0 ≤ b ∧ b ≤ 255 := fun b hb => bounds_u8 (hi b hb)
 have HB := Lib.hid hb
 have HI := Lib.hid hi
 have HR := Lib.hid hr
 have hlen : xs.length = len := by simpa using hr.1
 have HL := Lib.hid hlen
 clear hb hi hr hlen
 have hmb := Cr.more_bd s xs h1 h2 HB.out
 go_enter Try.func134, Try.ntmps134
 go_wp2_with fail
 go_loop [5, 6, 7, 8] (fun s' t _u _v => ∃ j : Nat, j ≤ len ∧ t = .int .i64 j ∧ s' = .int .u32 (Cr.run (4294967295 - s) (xs.take j))) (fun _ t _ _ => len - (intOf t).toNat)
 case atStart => exact ⟨0, by omega, rfl, rfl⟩
 case round =>
  obtain ⟨j, hj, rfl, rfl⟩ := hrel
  have hbd := Cr.run_bd (xs.take j) (4294967295 - s) (by omega) (by omega) (fun b hb => HB.out b (List.mem_of_mem_take hb))
  by_cases hlt : j < len
  ·obtain ⟨b, off, z, rfl, hbl, hz, hwz, hc⟩ := HR.out.int HI.out hlt
   have hzb := bounds_u8 hwz
   have HN := Lib.hid (Cr.run_snoc (4294967295 - s) (xs.take j) z)
   have HT := Lib.hid (take_succ_of hz)
   clear hz hwz
   generalize Cr.run (4294967295 - s) (xs.take j) = r at *
   have hx := Cr.xor_byte r z hbd.1 hbd.2 hzb.1 hzb.2
   have HX := Lib.hid hx.2.2
   have hx1 := hx.1
   have hx2 := hx.2.1
   clear hx
   generalize hq : bits .xor .u32 r z = q at *
   go_wp2_with fail
   go_loop [5, 7, 8] (fun s' t _u => ∃ k : Nat, k ≤ 8 ∧ t = .int .i64 k ∧ s' = .int .u32 (Cr.stepI q k)) (fun _ t _ => 8 - (intOf t).toNat)
   case atStart => exact ⟨0, by omega, rfl, by rw [Cr.stepI_zero q hx1]⟩
   case round =>
    obtain ⟨k, hk, rfl, rfl⟩ := hrel
    have hkb := Cr.stepI_bd q k hx1 hx2
    by_cases hlk : k < 8
    ·by_cases ho : Cr.stepI q k % 2 = 1
     ·have HO := Lib.hid (Cr.stepI_odd q k hx1 hx2 ho)
      have ho2 : (Cr.stepI q k % 2 == 1) = true := by simpa using ho
      clear ho
      go_wp2_with fail
      go_round
      case rel => exact ⟨k + 1, by omega, by go_num, by rw [HO.out]⟩
      case measure => simp [intOf]; omega
     ·have HO := Lib.hid (Cr.stepI_even q k hx1 hx2 ho)
      have ho2 : (Cr.stepI q k % 2 == 1) = false := by simpa using ho
      clear ho
      go_wp2_with fail
      go_round
      case rel => exact ⟨k + 1, by omega, by go_num, by rw [HO.out]⟩
      case measure => simp [intOf]; omega
    ·obtain rfl : k = 8 := by omega
     go_wp2_with fail
     go_round
     case rel => exact ⟨j + 1, by omega, by go_num, by rw [HT.out, HN.out, HX.out]⟩
     case measure => simp [intOf]; omega
  ·have hfin : Cr.run (4294967295 - s) (xs.take j) = Cr.run (4294967295 - s) xs := by rw [List.take_of_length_le (by rw [HL.out]; omega)]
   go_wp2_with fail
   go_ret
   exact ⟨ret_int (by unfold Cr.more; omega), rfl⟩
theorem sum_any (A : Option Addr) (len cap : Nat) (xs : List Int) (B : Nat) (w : World) (hr : RowAt w B A len (xs.map (Value.int .u8))) (hi : Ints .u8 xs) (hl : len ≤ 9223372036854775807) :
  Calls Try.prog 170 #[.slice A len cap] w fun e w' => e = .returned (.int .u32 (Cr.more 0 xs)) ∧ w = w' := by
 go_enter Try.func170, Try.ntmps170
 go_wp2_with fail
 refine (more_any 0 A len cap xs B _ (by omega) (by omega) hr hi hl).mono ?_
 rintro e w' ⟨rfl, rfl⟩
 go_wp2_with fail
 go_ret
 exact ⟨rfl, rfl⟩
end Go.Proofs.Ytlakbclnilakbaa
end

section
namespace Go.Proofs.Ytlakbclnilakbaa.Bt
open Go

/-! powers, masks -/
theorem pow_int (k : Nat) : ((2 ^ k : Nat) : Int) = (2 : Int) ^ k := by simp
theorem pow_bdN (k : Nat) (h : k < 64) : 1 ≤ 2 ^ k ∧ 2 ^ k ≤ 9223372036854775808 := by
 have a := Nat.one_le_two_pow (n := k)
 have b : (2 : Nat) ^ k ≤ 2 ^ 63 := Nat.pow_le_pow_right (by decide) (by omega)
 omega
/-- so many ones at the right -/
def maskN (k : Int) : Nat := 2 ^ (min k.toNat 64) - 1
def mask (k : Int) : Int := (maskN k : Nat)
theorem maskN_lt (k : Int) : maskN k < 18446744073709551616 := by
 have h : (2 : Nat) ^ (min k.toNat 64) ≤ 2 ^ 64 := Nat.pow_le_pow_right (by decide) (Nat.min_le_right _ _)
 have := Nat.one_le_two_pow (n := min k.toNat 64)
 unfold maskN; omega
theorem mask_nonneg (k : Int) : 0 ≤ mask k := Int.natCast_nonneg _
theorem mask_le (k : Int) : mask k ≤ 18446744073709551615 := by have := maskN_lt k; unfold mask; omega
theorem mask_le0 (k : Int) (h : k ≤ 0) : mask k = 0 := by
 have : k.toNat = 0 := by omega
 unfold mask maskN; rw [this]; simp
theorem mask_ge (k : Int) (h : 64 ≤ k) : mask k = 18446744073709551615 := by
 have : min k.toNat 64 = 64 := by omega
 unfold mask maskN; rw [this]; decide
theorem mask_mid (k : Int) (h : 0 < k) (h2 : k < 64) : IntKind.u64.wrap (IntKind.u64.wrap (2 ^ k.toNat) - 1) = mask k := by
 have e : min k.toNat 64 = k.toNat := by omega
 have := pow_bdN k.toNat (by omega)
 have c := pow_int k.toNat
 unfold mask maskN
 rw [e, IntKind.wrap_u64, IntKind.wrap_u64, ← c]
 omega
theorem testBit_maskN (k : Int) (i : Nat) : (maskN k).testBit i = decide (i < min k.toNat 64) := by
 unfold maskN; exact Nat.testBit_two_pow_sub_one ..

/-! a number by its bits -/
def ofBits (f : Nat → Bool) : Nat → Nat
 | 0 => 0
 | m + 1 => ofBits f m + (if f m then 2 ^ m else 0)
theorem ofBits_lt (f : Nat → Bool) (m : Nat) : ofBits f m < 2 ^ m := by
 induction m with
 | zero => simp [ofBits]
 | succ m ih => unfold ofBits; split <;> (rw [Nat.pow_succ]; omega)
theorem testBit_ofBits (f : Nat → Bool) (m i : Nat) : (ofBits f m).testBit i = (decide (i < m) && f i) := by
 induction m with
 | zero => simp [ofBits]
 | succ m ih =>
  unfold ofBits
  have hl := ofBits_lt f m
  have e : ofBits f m + (if f m then 2 ^ m else 0) = 2 ^ m * (if f m then 1 else 0) + ofBits f m := by split <;> omega
  rw [e, Nat.testBit_two_pow_mul_add _ hl]
  by_cases h : i < m
  ·rw [if_pos h, ih]; simp [h, Nat.lt_succ_of_lt h]
  ·rw [if_neg h]
   by_cases h2 : i = m
   ·subst h2; cases f i <;> simp
   ·have : ¬ i < m + 1 := by omega
    have h3 : i - m ≠ 0 := by omega
    simp only [this, decide_false, Bool.false_and]
    split
    ·obtain ⟨j, hj⟩ := Nat.exists_eq_succ_of_ne_zero h3
     rw [hj, Nat.testBit_succ]; simp
    ·simp
theorem high_bit (x i : Nat) (h : x < 18446744073709551616) (hi : 64 ≤ i) : x.testBit i = false :=
 Nat.testBit_lt_two_pow (Nat.lt_of_lt_of_le h (by have : (2 : Nat) ^ 64 ≤ 2 ^ i := Nat.pow_le_pow_right (by decide) hi; simpa using this))

/-! fields -/
def getN (x : Nat) (a : Int) (k : Int) : Nat := if 0 ≤ a ∧ a < 64 then (x >>> a.toNat) &&& maskN k else 0
def get (x a k : Int) : Int := (getN x.toNat a k : Nat)
theorem get_out (x a k : Int) (h : a < 0 ∨ 64 ≤ a) : get x a k = 0 := by unfold get getN; rw [if_neg (by omega)]; rfl
theorem get_in (x a k : Int) (hx : 0 ≤ x) (hx2 : x ≤ 18446744073709551615) (h : ¬ a < 0) (h2 : a < 64) :
  bits .and .u64 (x / 2 ^ a.toNat) (mask k) = get x a k := by
 obtain ⟨X, rfl⟩ := Int.eq_ofNat_of_zero_le hx
 have e : ((X : Int) / 2 ^ a.toNat) = ((X / 2 ^ a.toNat : Nat) : Int) := by rw [← pow_int]; exact (Int.natCast_ediv ..).symm
 have hl : X / 2 ^ a.toNat ≤ X := Nat.div_le_self _ _
 rw [e]
 unfold mask
 rw [u64_and_nat _ _ (by omega) (maskN_lt k)]
 unfold get getN
 rw [if_pos (by omega), Nat.shiftRight_eq_div_pow]
 rfl
def putN (x : Nat) (a k : Int) (n : Nat) : Nat :=
 if 0 ≤ a ∧ a < 64 then ofBits (fun i => if a.toNat ≤ i ∧ i < a.toNat + k.toNat then n.testBit (i - a.toNat) else x.testBit i) 64 else x
def put (x a k n : Int) : Int := (putN x.toNat a k n.toNat : Nat)
theorem put_out (x a k n : Int) (hx : 0 ≤ x) (h : a < 0 ∨ 64 ≤ a) : put x a k n = x := by unfold put putN; rw [if_neg (by omega)]; omega
theorem wrap_nat (X : Nat) : IntKind.u64.wrap (X : Int) = ((X % 18446744073709551616 : Nat) : Int) := by rw [IntKind.wrap_u64]; omega
theorem wrap_shl (X : Nat) (s : Nat) : IntKind.u64.wrap ((X : Int) * 2 ^ s) = ((X * 2 ^ s % 18446744073709551616 : Nat) : Int) := by
 rw [← pow_int, ← Int.natCast_mul, wrap_nat]
theorem testBit_shl (X s i : Nat) : (X * 2 ^ s % 18446744073709551616).testBit i = (decide (i < 64) && (decide (s ≤ i) && X.testBit (i - s))) := by
 have e : 18446744073709551616 = 2 ^ 64 := by decide
 rw [e, Nat.testBit_mod_two_pow, Nat.mul_comm, Nat.testBit_two_pow_mul]
theorem put_in (x a k n : Int) (hx : 0 ≤ x) (hx2 : x ≤ 18446744073709551615) (hn : 0 ≤ n) (hn2 : n ≤ 18446744073709551615) (h : ¬ a < 0) (h2 : a < 64) :
  bits .or .u64 (bits .andNot .u64 x (IntKind.u64.wrap (mask k * 2 ^ a.toNat))) (bits .and .u64 (IntKind.u64.wrap (n * 2 ^ a.toNat)) (IntKind.u64.wrap (mask k * 2 ^ a.toNat))) = put x a k n := by
 obtain ⟨X, rfl⟩ := Int.eq_ofNat_of_zero_le hx
 obtain ⟨N, rfl⟩ := Int.eq_ofNat_of_zero_le hn
 unfold mask
 rw [wrap_shl, wrap_shl]
 have hm : maskN k * 2 ^ a.toNat % 18446744073709551616 < 18446744073709551616 := Nat.mod_lt _ (by decide)
 have hN : N * 2 ^ a.toNat % 18446744073709551616 < 18446744073709551616 := Nat.mod_lt _ (by decide)
 have bm := fun i => testBit_shl (maskN k) a.toNat i
 have bN := fun i => testBit_shl N a.toNat i
 generalize maskN k * 2 ^ a.toNat % 18446744073709551616 = M at *
 generalize N * 2 ^ a.toNat % 18446744073709551616 = NN at *
 rw [u64_andNot_nat _ _ (by omega) hm, u64_and_nat _ _ hN hm]
 have l1 : X &&& (18446744073709551615 - M) < 18446744073709551616 := Nat.lt_of_le_of_lt Nat.and_le_left (by omega)
 have l2 : NN &&& M < 18446744073709551616 := Nat.lt_of_le_of_lt Nat.and_le_left hN
 rw [u64_or_nat _ _ l1 l2]
 unfold put putN
 rw [if_pos (by omega)]
 congr 1
 apply Nat.eq_of_testBit_eq
 intro i
 rw [testBit_ofBits, Nat.testBit_or, Nat.testBit_and, Nat.testBit_and]
 have e : 18446744073709551615 - M = 2 ^ 64 - (M + 1) := by omega
 rw [e, Nat.testBit_two_pow_sub_succ (by simpa using hm), bm, bN, testBit_maskN]
 by_cases h64 : i < 64
 ·by_cases ha : a.toNat ≤ i
  ·by_cases hk : i < a.toNat + k.toNat
   ·have h1 : i - a.toNat < min k.toNat 64 := by omega
    simp [h64, ha, hk, h1]
   ·have h1 : ¬ i - a.toNat < min k.toNat 64 := by omega
    simp [h64, ha, hk, h1]
  ·simp [h64, ha]
 ·have hx64 := high_bit X i (by omega) (by omega)
  simp [h64, hx64]

/-! the reference's functions: plain -/
def bit (x i : Int) : Bool := x.toNat.testBit i.toNat
def hf (X j : Nat) : Int := ((X / 2 ^ j : Nat) : Int)
end Go.Proofs.Ytlakbclnilakbaa.Bt
end

section
namespace Go.Proofs.Ytlakbclnilakbaa.By
open Go Go.RowKit
/-- what is left of a word behind so many bytes -/
def rest (x : Int) (j : Nat) : Int := ((x.toNat / 256 ^ j : Nat) : Int)
def byteAt (x : Int) (j : Nat) : Int := rest x j % 256
def bytesTo (x : Int) (k : Nat) : List Int := (List.range k).map (byteAt x)
def bytes (xs : List Int) : List Int := xs.flatMap fun x => bytesTo x 8
theorem rest_bd (x : Int) (j : Nat) (h : x ≤ 18446744073709551615) : 0 ≤ rest x j ∧ rest x j ≤ 18446744073709551615 := by
 have : x.toNat / 256 ^ j ≤ x.toNat := Nat.div_le_self _ _
 unfold rest
 generalize x.toNat / 256 ^ j = r at *
 omega
theorem rest_zero (x : Int) (h : 0 ≤ x) : rest x 0 = x := by unfold rest; simp; omega
theorem rest_succ (x : Int) (j : Nat) : rest x j / 256 = rest x (j + 1) := by
 unfold rest
 rw [Nat.pow_succ, ← Nat.div_div_eq_div_mul]
 generalize x.toNat / 256 ^ j = r at *
 omega
theorem rest_shr (x : Int) (j : Nat) (h : 0 ≤ x) : x / 2 ^ (8 * j) = rest x j := by
 obtain ⟨X, rfl⟩ := Int.eq_ofNat_of_zero_le h
 have e : (2 : Nat) ^ (8 * j) = 256 ^ j := by rw [Nat.pow_mul]
 unfold rest
 rw [← Bt.pow_int, e, Int.toNat_natCast]
 exact (Int.natCast_ediv ..).symm
theorem byteAt_bd (x : Int) (j : Nat) : 0 ≤ byteAt x j ∧ byteAt x j ≤ 255 := by unfold byteAt; omega
theorem bytesTo_zero (x : Int) : bytesTo x 0 = [] := rfl
theorem bytesTo_succ (x : Int) (k : Nat) : bytesTo x (k + 1) = bytesTo x k ++ [byteAt x k] := by unfold bytesTo; rw [List.range_succ, List.map_append]; rfl
theorem bytes_snoc (xs : List Int) (x : Int) : bytes (xs ++ [x]) = bytes xs ++ bytesTo x 8 := by unfold bytes; simp
theorem bytesTo_wf (x : Int) (k : Nat) : ∀ b ∈ bytesTo x k, 0 ≤ b ∧ b ≤ 255 := by
 intro b hb
 unfold bytesTo at hb
 obtain ⟨j, _, rfl⟩ := List.mem_map.1 hb
 exact byteAt_bd x j
theorem bytes_bd (xs : List Int) : ∀ b ∈ bytes xs, 0 ≤ b ∧ b ≤ 255 := by
 intro b hb
 unfold bytes at hb
 obtain ⟨x, _, hx⟩ := List.mem_flatMap.1 hb
 exact bytesTo_wf x 8 b hx
theorem map_snoc (xs : List Int) (b : Int) (k : IntKind) : (xs ++ [b]).map (Value.int k) = xs.map (Value.int k) ++ [.int k b] := by simp
/-- the value of so many bytes from place i on, the lowest first; noughts behind the end -/
def low (bs : List Int) (i : Nat) : Nat → Int
 | 0 => 0
 | t + 1 => low bs i t + bs.getD (i + t) 0 * 256 ^ t
def word (bs : List Int) (j : Nat) : Int := low bs (8 * j) 8
def words (bs : List Int) : List Int := (List.range ((bs.length + 7) / 8)).map (word bs)
/-- words of the first n bytes, in a row of N -/
def fill (bs : List Int) (N n : Nat) : List Int := (List.range N).map (word (bs.take n))
end Go.Proofs.Ytlakbclnilakbaa.By
end

section
namespace Go.Proofs.Ytlakbclnilakbaa
open Go.RowKit
set_option maxHeartbeats 400000
set_option maxRecDepth 100000
theorem rBytes_any (A : Option Addr) (len cap : Nat) (xs : List Int) (B : Nat) (w : World) (hr : RowAt w B A len (xs.map (Value.int .u64))) (hi : Ints .u64 xs) (hl : len ≤ 1099511627776) (hB : B ≤ w.heap.size) :
  Calls Try.prog 135 #[.slice A len cap] w fun e w' => ∃ v, e = .returned v ∧ w'.ownsRow w.heap.size 5 1 v (8 * len) ((By.bytes xs).map (Value.int .u8)) ∧ Below w.heap.size w w' := by
 obtain ⟨i0, hi0, hz0, hz1, hz2⟩ := info_parts info_u8
 have HI := Lib.hid hi
 have HR := Lib.hid hr
 have hlen : xs.length = len := by simpa using hr.1
 have HL := Lib.hid hlen
 clear hi hr hlen
 go_enter Try.func135, Try.ntmps135
 go_wp2_with fail
 go_loopw [3, 4, 5, 6] (fun v t _a _b wr => ∃ j : Nat, j ≤ len ∧ t = .int .i64 j ∧ wr.ownsRow w.heap.size 5 1 v (8 * j) ((By.bytes (xs.take j)).map (Value.int .u8)) ∧ Below w.heap.size w wr) (fun _ t _ _ _ => len - (intOf t).toNat)
 case atStart => exact ⟨0, by omega, rfl, World.ownsRow_nil _ _ _ _, Below.refl _ _⟩
 case round =>
  obtain ⟨j, hj, rfl, hown, hbe⟩ := hrel
  have hsz := hbe.size
  by_cases hlt : j < len
  ·obtain ⟨b, off, z, rfl, hbl, hz, hwz, hc⟩ := HR.out.int HI.out hlt
   have hzb := bounds_u64 hwz
   have hc2 := (hbe.cell (p := ⟨b, off + j, none⟩) (by simp; omega)).trans hc
   have HT := Lib.hid (take_succ_of hz)
   clear hz hwz hc
   go_wp2_with fail
   go_loopw [3, 5, 6] (fun v x t wr => ∃ k : Nat, k ≤ 8 ∧ t = .int .i64 k ∧ x = .int .u64 (By.rest z k) ∧ wr.ownsRow w.heap.size 5 1 v (8 * j + k) ((By.bytes (xs.take j) ++ By.bytesTo z k).map (Value.int .u8)) ∧ Below w.heap.size w wr) (fun _ _ t _ => 8 - (intOf t).toNat)
   case atStart => exact ⟨0, by omega, rfl, by rw [By.rest_zero z hzb.1], by rw [By.bytesTo_zero, List.append_nil]; exact hown, hbe⟩
   case round =>
    clear hown hbe hc2 hsz
    obtain ⟨k, hk, rfl, rfl, hown, hbe⟩ := hrel
    have hsz := hbe.size
    have hkb := By.rest_bd z k hzb.2
    have hks := Lib.hid (By.rest_succ z k)
    have hbs := Lib.hid (By.bytesTo_succ z k)
    by_cases hlk : k < 8
    ·have hba : By.rest z k % 256 = By.byteAt z k := rfl
     have hbb := By.byteAt_bd z k
     have HBA := Lib.hid hba
     go_wp2_with (first
      | (at_builtin; refine wpList_app1 (P := Try.prog) rfl (.tmp 21) (.tmp 25) 192 rfl w.heap.size 5 i0 (.int .u8 0) 1 Try.underlying192 hi0 hz0 hz1 hz2 rfl _ _ _ rfl hown _ _ rfl rfl (by unfold maxLen; omega) (by omega) hsz w.heap.size w hbe (Nat.le_refl _) ?_; intro v' w' hown' hbe' hlt' _))
     go_roundw
     case rel =>
      refine ⟨k + 1, by omega, by go_num, by rw [hks.out], ?_, hbe'⟩
      rw [hbs.out, ← List.append_assoc, By.map_snoc, ← HBA.out]
      exact hown'
     case measure => simp [intOf]; omega
    ·obtain rfl : k = 8 := by omega
     go_wp2_with fail
     go_roundw
     case rel =>
      refine ⟨j + 1, by omega, by go_num, ?_, hbe⟩
      rw [HT.out, By.bytes_snoc]
      exact hown
     case measure => simp [intOf]; omega
  ·go_wp2_with fail
   go_ret
   obtain rfl : j = len := by omega
   rw [List.take_of_length_le (by rw [HL.out]; exact Nat.le_refl _)] at hown
   exact ⟨_, rfl, hown, hbe⟩
theorem bytes_any (A : Option Addr) (len cap : Nat) (xs : List Int) (B : Nat) (w : World) (hr : RowAt w B A len (xs.map (Value.int .u64))) (hi : Ints .u64 xs) (hl : len ≤ 1099511627776) (hB : B ≤ w.heap.size) :
  Calls Try.prog 171 #[.slice A len cap] w fun e w' => ∃ v, e = .returned v ∧ w'.ownsRow w.heap.size 5 1 v (8 * len) ((By.bytes xs).map (Value.int .u8)) ∧ Below w.heap.size w w' := by
 obtain ⟨i0, hi0, hz0, hz1, hz2⟩ := info_parts info_u8
 have HI := Lib.hid hi
 have HR := Lib.hid hr
 have hlen : xs.length = len := by simpa using hr.1
 have HL := Lib.hid hlen
 clear hi hr hlen
 go_enter Try.func171, Try.ntmps171
 go_wp2_with (first
  | (at_make; refine wpList_make_own (P := Try.prog) _ rfl _ _ 192 rfl w.heap.size 5 i0 (.int .u8 0) 1 Try.underlying192 hi0 hz0 hz1 .i64 .i64 (8 * (len : Int)) (8 * len) rfl rfl (by omega) (by rw [hz2]; omega) (by unfold maxLen; omega) (Nat.le_refl _) ?_; intro w1 hown0 hg0))
 have hb0 : Below w.heap.size w w1 := (Below.refl _ _).grown hg0 (Nat.le_refl _) (by intro k hk; cases hk)
 clear hg0
 go_loopw [3, 5, 6, 13, 17] (fun v _a _b t _c wr => ∃ j : Nat, j ≤ len ∧ t = .int .i64 j ∧ wr.ownsRow w.heap.size 5 1 v (8 * j) ((By.bytes (xs.take j)).map (Value.int .u8)) ∧ Below w.heap.size w wr) (fun _ _ _ t _ _ => len - (intOf t).toNat)
 case atStart => exact ⟨0, by omega, rfl, hown0, hb0⟩
 case round =>
  clear hown0 hb0
  obtain ⟨j, hj, rfl, hown, hbe⟩ := hrel
  have hsz := hbe.size
  by_cases hlt : j < len
  ·obtain ⟨b, off, z, rfl, hbl, hz, hwz, hc⟩ := HR.out.int HI.out hlt
   have hzb := bounds_u64 hwz
   have hc2 := (hbe.cell (p := ⟨b, off + j, none⟩) (by simp; omega)).trans hc
   have HT := Lib.hid (take_succ_of hz)
   clear hz hwz hc
   go_wp2_with fail
   go_loopw [3, 6, 17] (fun v _b t wr => ∃ k : Nat, k ≤ 8 ∧ t = .int .i64 k ∧ wr.ownsRow w.heap.size 5 1 v (8 * j + k) ((By.bytes (xs.take j) ++ By.bytesTo z k).map (Value.int .u8)) ∧ Below w.heap.size w wr) (fun _ _ t _ => 8 - (intOf t).toNat)
   case atStart => exact ⟨0, by omega, rfl, by rw [By.bytesTo_zero, List.append_nil]; exact hown, hbe⟩
   case round =>
    clear hown hbe hc2 hsz
    obtain ⟨k, hk, rfl, hown, hbe⟩ := hrel
    have hsz := hbe.size
    have hkb := By.rest_bd z k hzb.2
    have hbs := Lib.hid (By.bytesTo_succ z k)
    by_cases hlk : k < 8
    ·have hba : By.rest z k % 256 = By.byteAt z k := rfl
     have hbb := By.byteAt_bd z k
     have HBA := Lib.hid hba
     clear hba
     have hsh := By.rest_shr z k hzb.1
     go_wp2_with (first
      | (at_builtin; refine wpList_app1 (P := Try.prog) rfl (.tmp 20) (.tmp 27) 192 rfl w.heap.size 5 i0 (.int .u8 0) 1 Try.underlying192 hi0 hz0 hz1 hz2 rfl _ _ _ rfl hown _ _ rfl rfl (by unfold maxLen; omega) (by omega) hsz w.heap.size w hbe (Nat.le_refl _) ?_; intro v' w' hown' hbe' hlt' _))
     clear hsh
     go_roundw
     case rel =>
      refine ⟨k + 1, by omega, by go_num, ?_, hbe'⟩
      rw [hbs.out, ← List.append_assoc, By.map_snoc, ← HBA.out]
      exact hown'
     case measure => simp [intOf]; omega
    ·obtain rfl : k = 8 := by omega
     go_wp2_with fail
     go_roundw
     case rel =>
      refine ⟨j + 1, by omega, by go_num, ?_, hbe⟩
      rw [HT.out, By.bytes_snoc]
      exact hown
     case measure => simp [intOf]; omega
  ·go_wp2_with fail
   go_ret
   obtain rfl : j = len := by omega
   rw [List.take_of_length_le (by rw [HL.out]; exact Nat.le_refl _)] at hown
   exact ⟨_, rfl, hown, hbe⟩
end Go.Proofs.Ytlakbclnilakbaa
end

section
namespace Go.Proofs.Ytlakbclnilakbaa.Sl
open Go Go.RowKit
def sum (n q : Int) : Int := Cr.more 0 (By.bytes [n, q])
theorem sum_bd (n q : Int) : 0 ≤ Cr.more 0 (By.bytes [n, q]) ∧ Cr.more 0 (By.bytes [n, q]) ≤ 4294967295 := Cr.more_bd 0 _ (by omega) (by omega) (By.bytes_bd _)
def sealed (n p : Int) : Int := sum n (IntKind.u64.wrap p) * 4294967296 + n
theorem seal_bd (n p : Int) (h1 : 0 ≤ n) (h2 : n ≤ 4294967295) : 0 ≤ sealed n p ∧ sealed n p ≤ 18446744073709551615 := by
 have := sum_bd n (IntKind.u64.wrap p)
 unfold sealed sum; omega
theorem seal_mod (n p : Int) (h1 : 0 ≤ n) (h2 : n ≤ 4294967295) : sealed n p % 4294967296 = n := by unfold sealed; omega
theorem seal_def (n p q : Int) (hq : IntKind.u64.wrap p = q) : Cr.more 0 (By.bytes [n, q]) * 4294967296 + n = sealed n p := by unfold sealed sum; rw [hq]
theorem join32 (s n : Nat) (h : n < 4294967296) : s * 4294967296 ||| n = s * 4294967296 + n := by
 rw [Nat.mul_comm, show (4294967296 : Nat) = 2 ^ 32 from rfl, Nat.two_pow_add_eq_or_of_lt (by omega)]
theorem seal_code (n p q : Int) (h1 : 0 ≤ n) (h2 : n ≤ 4294967295) (hq : IntKind.u64.wrap p = q) : bits .or .u64 (Cr.more 0 (By.bytes [n, q]) * 4294967296) n = sealed n p := by
 rw [← seal_def n p q hq]
 have hb := sum_bd n q
 generalize Cr.more 0 (By.bytes [n, q]) = s at *
 obtain ⟨S, rfl⟩ := Int.eq_ofNat_of_zero_le hb.1
 obtain ⟨N, rfl⟩ := Int.eq_ofNat_of_zero_le h1
 have e : (S : Int) * 4294967296 = ((S * 4294967296 : Nat) : Int) := (Int.natCast_mul S 4294967296).symm
 rw [e, u64_or_nat _ _ (by omega) (by omega), join32 _ _ (by omega)]
 omega
def openB (x p : Int) : Bool := decide (sealed (x % 4294967296) p = x)
def openN (x p : Int) : Int := if openB x p then x % 4294967296 else 0
theorem openN_no (x p : Int) (h : openB x p = false) : openN x p = 0 := by unfold openN; rw [h]; rfl
theorem openN_yes (x p : Int) (h : openB x p = true) : openN x p = x % 4294967296 := by unfold openN; rw [h]; rfl
theorem openB_no (x p : Int) (h : openB x p = false) : (sealed (x % 4294967296) p != x) = true := by unfold openB at h; simpa using h
theorem openB_yes (x p : Int) (h : openB x p = true) : (sealed (x % 4294967296) p != x) = false := by unfold openB at h; simpa using h
theorem open_seal (n p : Int) (h1 : 0 ≤ n) (h2 : n ≤ 4294967295) : openB (sealed n p) p = true ∧ openN (sealed n p) p = n := by
 have e : openB (sealed n p) p = true := by unfold openB; rw [seal_mod n p h1 h2]; simp
 exact ⟨e, by rw [openN_yes _ _ e, seal_mod n p h1 h2]⟩
end Go.Proofs.Ytlakbclnilakbaa.Sl
end

section
namespace Go.Proofs.Ytlakbclnilakbaa
open Go.RowKit
set_option maxHeartbeats 400000
theorem crcWords_any (A : Option Addr) (len cap : Nat) (xs : List Int) (B : Nat) (w : World) (hr : RowAt w B A len (xs.map (Value.int .u64))) (hi : Ints .u64 xs) (hl : len ≤ 1099511627776) (hB : B ≤ w.heap.size) :
  Calls Try.prog 165 #[.slice A len cap] w fun e w' => e = .returned (.int .u32 (Cr.more 0 (By.bytes xs))) ∧ Below w.heap.size w w' := by
 go_enter Try.func165, Try.ntmps165
 go_wp2_with fail
 refine (bytes_any A len cap xs B _ hr hi hl hB).mono ?_
 rintro e w1 ⟨v, rfl, hown, hb⟩
 obtain ⟨A', c', rfl, hc1, hc2, _⟩ := own_shape hown
 go_wp2_with fail
 refine (sum_any A' (8 * len) c' (By.bytes xs) _ _ (RowAt.of_own hown) (fun z hz => wf_u8 (By.bytes_bd xs z hz)) (by omega)).mono ?_
 rintro e w' ⟨rfl, rfl⟩
 go_wp2_with fail
 go_ret
 exact ⟨rfl, hb⟩
theorem rCrcWords_any (A : Option Addr) (len cap : Nat) (xs : List Int) (B : Nat) (w : World) (hr : RowAt w B A len (xs.map (Value.int .u64))) (hi : Ints .u64 xs) (hl : len ≤ 1099511627776) (hB : B ≤ w.heap.size) :
  Calls Try.prog 111 #[.slice A len cap] w fun e w' => e = .returned (.int .u32 (Cr.more 0 (By.bytes xs))) ∧ Below w.heap.size w w' := by
 go_enter Try.func111, Try.ntmps111
 go_wp2_with fail
 refine (rBytes_any A len cap xs B _ hr hi hl hB).mono ?_
 rintro e w1 ⟨v, rfl, hown, hb⟩
 obtain ⟨A', c', rfl, hc1, hc2, _⟩ := own_shape hown
 go_wp2_with fail
 refine (rMore_any 0 A' (8 * len) c' (By.bytes xs) _ _ (by omega) (by omega) (RowAt.of_own hown) (fun z hz => wf_u8 (By.bytes_bd xs z hz)) (by omega)).mono ?_
 rintro e w' ⟨rfl, rfl⟩
 go_wp2_with fail
 go_ret
 exact ⟨rfl, hb⟩
theorem two_row (w : World) (T : TypeId) (x y : Int) : RowAt (w.alloc (.cells #[.int .u64 x, .int .u64 y] T)) (w.heap.size + 1) (some ⟨w.heap.size, 0, none⟩) 2 ([x, y].map (Value.int .u64)) := by
 have h := RowAt.of_block (heap_alloc_new w (.cells #[.int .u64 x, .int .u64 y] T)) (by simp) (m := 2) rfl
 simpa using h
theorem seal_any (n p : Int) (w : World) (h1 : 0 ≤ n) (h2 : n ≤ 4294967295) (p1 : -9223372036854775808 ≤ p) (p2 : p ≤ 9223372036854775807) :
  Calls Try.prog 154 #[.int .u32 n, .int .i64 p] w fun e w' => e = .returned (.int .u64 (Sl.sealed n p)) ∧ Below w.heap.size w w' := by
 obtain ⟨q, hq⟩ : ∃ q, IntKind.u64.wrap p = q := ⟨_, rfl⟩
 have hqb : 0 ≤ q ∧ q ≤ 18446744073709551615 := by rw [← hq, IntKind.wrap_u64]; omega
 have HQ := Lib.hid hq
 have hcb := Sl.sum_bd n q
 have hfin := Lib.hid (Sl.seal_code n p q h1 h2 hq)
 go_enter Try.func154, Try.ntmps154
 go_wp2_with fail
 refine (crcWords_any _ 2 2 [n, q] _ _ (two_row w _ n q) (by intro z hz; simp at hz; rcases hz with rfl | rfl <;> exact wf_u64 (by omega)) (by omega) (by simp)).mono ?_
 rintro e w1 ⟨rfl, hb⟩
 go_wp2_with fail
 go_ret
 exact ⟨ret_int hfin.out, ((Below.refl _ _).alloc (Nat.le_refl _) _).trans (hb.mono (by simp))⟩
theorem rSeal_any (n p : Int) (w : World) (h1 : 0 ≤ n) (h2 : n ≤ 4294967295) (p1 : -9223372036854775808 ≤ p) (p2 : p ≤ 9223372036854775807) :
  Calls Try.prog 87 #[.int .u32 n, .int .i64 p] w fun e w' => e = .returned (.int .u64 (Sl.sealed n p)) ∧ Below w.heap.size w w' := by
 obtain ⟨q, hq⟩ : ∃ q, IntKind.u64.wrap p = q := ⟨_, rfl⟩
 have hqb : 0 ≤ q ∧ q ≤ 18446744073709551615 := by rw [← hq, IntKind.wrap_u64]; omega
 have HQ := Lib.hid hq
 have hcb := Sl.sum_bd n q
 have hfin := Lib.hid (Sl.seal_def n p q hq)
 go_enter Try.func87, Try.ntmps87
 go_wp2_with fail
 refine (rCrcWords_any _ 2 2 [n, q] _ _ (two_row w _ n q) (by intro z hz; simp at hz; rcases hz with rfl | rfl <;> exact wf_u64 (by omega)) (by omega) (by simp)).mono ?_
 rintro e w1 ⟨rfl, hb⟩
 go_wp2_with fail
 go_ret
 exact ⟨ret_int hfin.out, ((Below.refl _ _).alloc (Nat.le_refl _) _).trans (hb.mono (by simp))⟩
theorem open_any (x p : Int) (w : World) (h1 : 0 ≤ x) (h2 : x ≤ 18446744073709551615) (p1 : -9223372036854775808 ≤ p) (p2 : p ≤ 9223372036854775807) :
  Calls Try.prog 141 #[.int .u64 x, .int .i64 p] w fun e w' => e = .returned (.tuple #[.int .u32 (Sl.openN x p), .bool (Sl.openB x p)]) ∧ Below w.heap.size w w' := by
 cases hob : Sl.openB x p
 ·have hon := Sl.openN_no x p hob
  have ho := Sl.openB_no x p hob
  rw [hon]
  clear hob hon
  go_enter Try.func141, Try.ntmps141
  go_wp2_with (first | (go_at_call 154; refine (seal_any _ _ _ (by omega) (by omega) (by omega) (by omega)).mono ?_; rintro e w1 ⟨rfl, hb⟩))
  go_ret2
  exact ⟨rfl, hb⟩
 ·have hon := Sl.openN_yes x p hob
  have ho := Sl.openB_yes x p hob
  rw [hon]
  clear hob hon
  go_enter Try.func141, Try.ntmps141
  go_wp2_with (first | (go_at_call 154; refine (seal_any _ _ _ (by omega) (by omega) (by omega) (by omega)).mono ?_; rintro e w1 ⟨rfl, hb⟩))
  go_ret2
  exact ⟨rfl, hb⟩
end Go.Proofs.Ytlakbclnilakbaa
end

section
namespace Go.Proofs.Ytlakbclnilakbaa
open Go.RowKit
set_option maxHeartbeats 400000
theorem mask_any (k : Int) (w : World) (h1 : -9223372036854775808 ≤ k) (h2 : k ≤ 9223372036854775807) :
  Calls Try.prog 155 #[.int .i64 k] w fun e w' => e = .returned (.int .u64 (Bt.mask k)) ∧ w = w' := by
 by_cases a : k ≤ 0
 ·go_enter Try.func155, Try.ntmps155
  go_wp2
  go_ret
  exact ⟨ret_int (by rw [Bt.mask_le0 k a]), rfl⟩
 ·by_cases b : 64 ≤ k
  ·go_enter Try.func155, Try.ntmps155
   go_wp2
   go_ret
   exact ⟨ret_int (by rw [Bt.mask_ge k b]), rfl⟩
  ·go_enter Try.func155, Try.ntmps155
   go_wp2
   go_ret
   exact ⟨ret_int (Bt.mask_mid k (by omega) (by omega)), rfl⟩
theorem get_any (x a k : Int) (w : World) (x1 : 0 ≤ x) (x2 : x ≤ 18446744073709551615) (a1 : -9223372036854775808 ≤ a) (a2 : a ≤ 9223372036854775807) (h1 : -9223372036854775808 ≤ k) (h2 : k ≤ 9223372036854775807) :
  Calls Try.prog 142 #[.int .u64 x, .int .i64 a, .int .i64 k] w fun e w' => e = .returned (.int .u64 (Bt.get x a k)) ∧ w = w' := by
 have m1 := Bt.mask_nonneg k
 have m2 := Bt.mask_le k
 by_cases c : a < 0
 ·go_enter Try.func142, Try.ntmps142
  go_wp2_with fail
  go_ret
  exact ⟨ret_int (Bt.get_out x a k (.inl c)).symm, rfl⟩
 ·by_cases b : 64 ≤ a
  ·go_enter Try.func142, Try.ntmps142
   go_wp2_with fail
   go_ret
   exact ⟨ret_int (Bt.get_out x a k (.inr b)).symm, rfl⟩
  ·go_enter Try.func142, Try.ntmps142
   go_wp2_with fail
   refine (mask_any _ _ (by omega) (by omega)).mono ?_
   rintro e w' ⟨rfl, rfl⟩
   go_wp2_with fail
   go_ret
   exact ⟨ret_int (Bt.get_in x a k x1 x2 (by omega) (by omega)), rfl⟩
theorem put_any (x a k n : Int) (w : World) (x1 : 0 ≤ x) (x2 : x ≤ 18446744073709551615) (a1 : -9223372036854775808 ≤ a) (a2 : a ≤ 9223372036854775807) (h1 : -9223372036854775808 ≤ k) (h2 : k ≤ 9223372036854775807)
  (n1 : 0 ≤ n) (n2 : n ≤ 18446744073709551615) :
  Calls Try.prog 156 #[.int .u64 x, .int .i64 a, .int .i64 k, .int .u64 n] w fun e w' => e = .returned (.int .u64 (Bt.put x a k n)) ∧ w = w' := by
 have m1 := Bt.mask_nonneg k
 have m2 := Bt.mask_le k
 by_cases c : a < 0
 ·go_enter Try.func156, Try.ntmps156
  go_wp2_with fail
  go_ret
  exact ⟨ret_int (Bt.put_out x a k n x1 (.inl c)).symm, rfl⟩
 ·by_cases b : 64 ≤ a
  ·go_enter Try.func156, Try.ntmps156
   go_wp2_with fail
   go_ret
   exact ⟨ret_int (Bt.put_out x a k n x1 (.inr b)).symm, rfl⟩
  ·go_enter Try.func156, Try.ntmps156
   go_wp2_with fail
   refine (mask_any _ _ (by omega) (by omega)).mono ?_
   rintro e w' ⟨rfl, rfl⟩
   go_wp2_with fail
   go_ret
   exact ⟨ret_int (Bt.put_in x a k n x1 x2 n1 n2 (by omega) (by omega)), rfl⟩
end Go.Proofs.Ytlakbclnilakbaa
end

section
namespace Go.Proofs.Ytlakbclnilakbaa.Bt
open Go
theorem testBit_putN (x : Nat) (a k : Int) (n : Nat) (i : Nat) (h : 0 ≤ a) (h2 : a < 64) :
  (putN x a k n).testBit i = (decide (i < 64) && if a.toNat ≤ i ∧ i < a.toNat + k.toNat then n.testBit (i - a.toNat) else x.testBit i) := by
 unfold putN
 rw [if_pos ⟨h, h2⟩, testBit_ofBits]
end Go.Proofs.Ytlakbclnilakbaa.Bt
end

section
namespace Go.Proofs.Ytlakbclnilakbaa.Oh
open Go Go.RowKit
/-- a field above all bits that are there is added -/
theorem put_above (x a k n : Nat) (h : a + k ≤ 64) (ha : a < 64) (hx : x < 2 ^ a) (hn : n < 2 ^ k) : Bt.putN x a k n = 2 ^ a * n + x := by
 apply Nat.eq_of_testBit_eq
 intro i
 rw [Bt.testBit_putN _ _ _ _ _ (by omega) (by omega), Nat.testBit_two_pow_mul_add _ hx, Int.toNat_natCast, Int.toNat_natCast]
 by_cases h1 : i < a
 ·have c : ¬ (a ≤ i ∧ i < a + k) := by omega
  rw [if_neg c, if_pos h1]
  have : i < 64 := by omega
  simp [this]
 ·rw [if_neg h1]
  by_cases h2 : i < a + k
  ·rw [if_pos ⟨by omega, h2⟩]
   have : i < 64 := by omega
   simp [this]
  ·rw [if_neg (by omega)]
   have e1 : x.testBit i = false := Nat.testBit_lt_two_pow (Nat.lt_of_lt_of_le hx (Nat.pow_le_pow_right (by decide) (by omega)))
   have e2 : n.testBit (i - a) = false := Nat.testBit_lt_two_pow (Nat.lt_of_lt_of_le hn (Nat.pow_le_pow_right (by decide) (by omega)))
   rw [e1, e2]; simp
theorem put_add (x n : Int) (a k : Nat) (h : a + k ≤ 64) (ha : a < 64) (h0 : 0 ≤ x) (hx : x < 2 ^ a) (hn0 : 0 ≤ n) (hn : n < 2 ^ k) : Bt.put x a k n = 2 ^ a * n + x := by
 obtain ⟨X, rfl⟩ := Int.eq_ofNat_of_zero_le h0
 obtain ⟨N, rfl⟩ := Int.eq_ofNat_of_zero_le hn0
 rw [← Bt.pow_int] at *
 unfold Bt.put
 rw [Int.toNat_natCast, Int.toNat_natCast, put_above X a k N h ha (by omega) (by omega)]
 rw [Int.natCast_add, Int.natCast_mul]
theorem get_div (x : Int) (a k : Nat) (ha : a < 64) (hk : k ≤ 64) (h0 : 0 ≤ x) : Bt.get x a k = x / 2 ^ a % 2 ^ k := by
 obtain ⟨X, rfl⟩ := Int.eq_ofNat_of_zero_le h0
 unfold Bt.get Bt.getN
 rw [if_pos (by omega), Int.toNat_natCast, Int.toNat_natCast, Nat.shiftRight_eq_div_pow]
 have e : Bt.maskN k = 2 ^ k - 1 := by unfold Bt.maskN; rw [Int.toNat_natCast, Nat.min_eq_left hk]
 rw [e, Nat.and_two_pow_sub_one_eq_mod, ← Bt.pow_int, ← Bt.pow_int, Int.natCast_emod, Int.natCast_ediv]
/-! ## objects -/
theorem put_o (p d : Int) (h1 : 0 ≤ p) (h2 : p ≤ 63) (h3 : 0 ≤ d) (h4 : d ≤ 16384) :
  Bt.put 165 8 6 p = 165 + 256 * p ∧ Bt.put (165 + 256 * p) 14 15 d = 165 + 256 * p + 16384 * d := by
 have a := put_add 165 p 8 6 (by decide) (by decide) (by omega) (by decide) h1 (by omega)
 have b := put_add (165 + 256 * p) d 14 15 (by decide) (by decide) (by omega) (by omega) h3 (by omega)
 have e1 : ((8 : Nat) : Int) = 8 := rfl
 have e2 : ((6 : Nat) : Int) = 6 := rfl
 have e3 : ((14 : Nat) : Int) = 14 := rfl
 have e4 : ((15 : Nat) : Int) = 15 := rfl
 rw [e1, e2] at a
 rw [e3, e4] at b
 rw [a, b]
 omega
def enc (p d at_ : Int) : Int := if Cl.size p d = 0 then 0 else Sl.sealed (165 + 256 * p + 16384 * d) at_
theorem enc_bad (p d at_ : Int) (h : p < 0 ∨ p > 63 ∨ d < 0 ∨ d > 16384) : enc p d at_ = 0 := by unfold enc; rw [if_pos (Cl.size_bad p d h).1]
theorem enc_good (p d at_ : Int) (h1 : 0 ≤ p) (h2 : p ≤ 63) (h3 : 0 ≤ d) (h4 : d ≤ 16384) : enc p d at_ = Sl.sealed (165 + 256 * p + 16384 * d) at_ := by
 unfold enc; rw [if_neg (by rw [(Cl.size_good p d h1 h2 h3 h4).1]; omega)]
theorem enc_bd (p d at_ : Int) : 0 ≤ enc p d at_ ∧ enc p d at_ ≤ 18446744073709551615 := by
 by_cases h : p < 0 ∨ p > 63 ∨ d < 0 ∨ d > 16384
 ·rw [enc_bad p d at_ h]; omega
 ·rw [enc_good p d at_ (by omega) (by omega) (by omega) (by omega)]
  exact Sl.seal_bd _ _ (by omega) (by omega)
def rawP (x : Int) : Int := x % 4294967296 / 256 % 64
def rawD (x : Int) : Int := x % 4294967296 / 16384 % 32768
theorem raw_bd (x : Int) : 0 ≤ rawP x ∧ rawP x ≤ 63 ∧ 0 ≤ rawD x ∧ rawD x ≤ 32767 := by unfold rawP rawD; omega
theorem raw_get (x : Int) : Bt.get (x % 4294967296) 8 6 = rawP x ∧ Bt.get (x % 4294967296) 14 15 = rawD x := by
 have a := get_div (x % 4294967296) 8 6 (by decide) (by decide) (by omega)
 have b := get_div (x % 4294967296) 14 15 (by decide) (by decide) (by omega)
 exact ⟨a, b⟩
def decB (x at_ : Int) : Bool := Sl.openB x at_ && decide (enc (rawP x) (rawD x) at_ = x)
def decE (x at_ : Int) : Int := if Sl.openB x at_ then (if enc (rawP x) (rawD x) at_ = x then 0 else 26) else 25
def decP (x at_ : Int) : Int := if decB x at_ then rawP x else 0
def decD (x at_ : Int) : Int := if decB x at_ then rawD x else 0
theorem dec_closed (x at_ : Int) (h : Sl.openB x at_ = false) : decE x at_ = 25 ∧ decP x at_ = 0 ∧ decD x at_ = 0 := by
 unfold decE decP decD decB; rw [h]; simp
theorem dec_other (x at_ : Int) (h : Sl.openB x at_ = true) (h2 : enc (rawP x) (rawD x) at_ ≠ x) : decE x at_ = 26 ∧ decP x at_ = 0 ∧ decD x at_ = 0 := by
 unfold decE decP decD decB; rw [h]; simp [h2]
theorem dec_right (x at_ : Int) (h : Sl.openB x at_ = true) (h2 : enc (rawP x) (rawD x) at_ = x) : decE x at_ = 0 ∧ decP x at_ = rawP x ∧ decD x at_ = rawD x := by
 unfold decE decP decD decB; rw [h]; simp [h2]
theorem dec_none (x at_ : Int) (h : Cl.size (rawP x) (rawD x) = 0) (h0 : 0 ≤ x) : enc (rawP x) (rawD x) at_ ≠ x := by
 intro e
 unfold enc at e
 rw [if_pos h] at e
 have hx : x = 0 := e.symm
 rw [hx] at h
 revert h
 decide
theorem dec_enc (p d at_ : Int) (h1 : 0 ≤ p) (h2 : p ≤ 63) (h3 : 0 ≤ d) (h4 : d ≤ 16384) : decE (enc p d at_) at_ = 0 ∧ decP (enc p d at_) at_ = p ∧ decD (enc p d at_) at_ = d := by
 have e := enc_good p d at_ h1 h2 h3 h4
 have hm := Sl.seal_mod (165 + 256 * p + 16384 * d) at_ (by omega) (by omega)
 have ho := (Sl.open_seal (165 + 256 * p + 16384 * d) at_ (by omega) (by omega)).1
 have rp : rawP (enc p d at_) = p := by unfold rawP; rw [e, hm]; omega
 have rd : rawD (enc p d at_) = d := by unfold rawD; rw [e, hm]; omega
 have r := dec_right (enc p d at_) at_ (by rw [e]; exact ho) (by rw [rp, rd])
 rw [rp, rd] at r
 exact r
def inB (i n : Int) : Bool := decide (0 ≤ i ∧ i < n)
theorem inB_yes (i n : Int) (h : 0 ≤ i) (h2 : i < n) : inB i n = true := by unfold inB; simp; omega
theorem inB_no (i n : Int) (h : i < 0 ∨ n ≤ i) : inB i n = false := by unfold inB; simp; omega
end Go.Proofs.Ytlakbclnilakbaa.Oh
end
