/- A large object's headers. -/
import Derived.Test.YthbkfgafdjcicaaBhead3
namespace Go.Proofs.Ythbkfgafdjcicaa
open Go.RowKit
set_option linter.unusedVariables false
set_option maxHeartbeats 1000000
set_option maxRecDepth 100000
/-- 'append(out, x)' of one value of three cells, out the call's own -/
theorem wpList_app3 {P : Program} {w : World} {ops : Array Oper} {rest : List Oper} {o : Oper} {a : Act} {Q : Exit → Act → World → Prop} (hgd : o.guard = none) (s x : Operand) (t : TypeId)
    (ho : o.op = .call { callee := .builtin .append, args := #[s, x], argTypes := #[t, t] })
    (base : Nat) (e : TypeId) (i : TypeInfo) (z : Value) (bytes : Nat) (ht : P.underlying t = some (.slice e)) (hi : P.info? e = some i) (hz : i.zero = some z)
    (hsize : i.size = 3) (hby : i.bytes = bytes) (hzs : z.cells.size = 3)
    (v : Value) (n : Nat) (xs : List Value) (hs : a.eval s = v) (hown : w.ownsRow base e 3 v n xs) (u0 u1 u2 : Value) (c : Nat)
    (hx : a.eval x = .slice (some ⟨w.heap.size, 0, none⟩) 1 c) (hu0 : u0.oneCell' = true) (hu1 : u1.oneCell' = true) (hu2 : u2.oneCell' = true)
    (h63 : n + 1 ≤ maxLen) (hbytes : (n + 1) * bytes ≤ 140737488355328) (hbase : base ≤ w.heap.size) (B : Nat) (w0 : World) (hb : Below B w0 w) (hB : B ≤ base)
    (h : ∀ v' w', w'.ownsRow base e 3 v' (n + 1) (xs ++ [u0, u1, u2]) → Below B w0 w' → w.heap.size < w'.heap.size → wpList P ops Q rest (a.put o.dst v') w') :
    wpList P ops Q (o :: rest) a (w.alloc (.cells #[u0, u1, u2] e)) := by
  refine wpList_append_own (P := P) (w.alloc (.cells #[u0, u1, u2] e)) hgd s x t ho base e i z 3 bytes ht hi hz hsize hby hzs (by decide) v n xs hs (hown.alloc _) ⟨w.heap.size, 0, none⟩ 1 c [u0, u1, u2] hx rfl ?_ ?_ h63 hbytes (by simp; omega) ?_
  · intro j u' hj
    match j, hj with
    | 0, hj => simp at hj; subst hj; simp [Addr.add]
    | 1, hj => simp at hj; subst hj; simp [Addr.add]
    | 2, hj => simp at hj; subst hj; simp [Addr.add]
  · intro u' hj; simp at hj; rcases hj with rfl | rfl | rfl <;> assumption
  · intro v' w' h1 h2 _
    have h3 : Below B w0 (w.alloc (.cells #[u0, u1, u2] e)) := hb.alloc (by omega) _
    have h4 := h2.size
    simp at h4
    exact h v' w' h1 (h3.grown h2 (by simp; omega) (fun k hk => Nat.le_trans hB (ownBlock_ge hown k hk))) (by omega)
def Bh.one (n : Int) (j : Nat) : List Value := if j = 0 then [.int .i64 2, .int .i64 0, .int .i64 n] else [.int .i64 3, .int .i64 0, .int .i64 j]
def Bh.rows (n : Int) : Nat → List Value
  | 0 => []
  | j + 1 => Bh.rows n j ++ Bh.one n j
theorem info_bhead : (Try.prog.info? 73).map (fun i => (i.zero, i.size, i.bytes)) = some (some (.agg #[.int .i64 0, .int .i64 0, .int .i64 0]), 3, 24) := by kernel_rfl
theorem run_any (n : Int) (w : World) (h1 : 0 ≤ n) (h2 : n ≤ 255) :
    Calls Try.prog 71 #[.int .i64 n] w fun e w' => ∃ v, e = .returned v ∧ w'.ownsRow w.heap.size 73 3 v n.toNat (Bh.rows n n.toNat) ∧ Below w.heap.size w w' := by
  obtain ⟨i0, hi0, hz0, hz1, hz2⟩ := info_parts info_bhead
  go_enter Try.func71, Try.ntmps71
  go_wp2_with fail
  go_loopw [3, 4, 6] (fun v _a t wr => ∃ j : Nat, (j : Int) ≤ n ∧ t = .int .i64 j ∧ wr.ownsRow w.heap.size 73 3 v j (Bh.rows n j) ∧ Below w.heap.size w wr) (fun _ _ t _ => n.toNat - (intOf t).toNat)
  case atStart => exact ⟨0, by omega, rfl, World.ownsRow_nil _ _ _ _, Below.refl _ _⟩
  case round =>
    obtain ⟨j, hj, rfl, hown, hbe⟩ := hrel
    have hsz := hbe.size
    by_cases hlt : (j : Int) < n
    · by_cases h0 : j = 0
      · subst h0
        go_wp2_with (first
          | (at_builtin; refine wpList_app3 (P := Try.prog) rfl (.tmp 11) (.tmp 14) 94 rfl w.heap.size 73 i0 (.agg #[.int .i64 0, .int .i64 0, .int .i64 0]) 24 Try.underlying94 hi0 hz0 hz1 hz2 rfl _ _ _ rfl hown _ _ _ _ rfl rfl rfl rfl (by unfold maxLen; omega) (by omega) hsz w.heap.size w hbe (Nat.le_refl _) ?_; intro v' w' hown' hbe' hlt'))
        go_roundw
        case rel => exact ⟨1, by omega, by go_num, hown', hbe'⟩
        case measure => simp [intOf]; omega
      · have z0 : ((j : Int) == 0) = false := by simp; omega
        go_wp2_with (first
          | (at_builtin; refine wpList_app3 (P := Try.prog) rfl (.tmp 16) (.tmp 19) 94 rfl w.heap.size 73 i0 (.agg #[.int .i64 0, .int .i64 0, .int .i64 0]) 24 Try.underlying94 hi0 hz0 hz1 hz2 rfl _ _ _ rfl hown _ _ _ _ rfl rfl rfl rfl (by unfold maxLen; omega) (by omega) hsz w.heap.size w hbe (Nat.le_refl _) ?_; intro v' w' hown' hbe' hlt'))
        go_roundw
        case rel => exact ⟨j + 1, by omega, by go_num, by rw [Bh.rows, Bh.one, if_neg h0]; exact hown', hbe'⟩
        case measure => simp [intOf]; omega
    · obtain rfl : n = (j : Int) := by omega
      go_wp2_with fail
      go_ret
      exact ⟨_, rfl, by simpa using hown, hbe⟩
theorem awake7_any (w : World) : Calls Try.prog 48 #[] w fun e w' => e = .returned (.bool true) ∧ Below w.heap.size w w' := by
  go_enter Try.func48, Try.ntmps48
  go_wp2_with fail
  refine (run_any 3 _ (by omega) (by omega)).mono ?_
  rintro e w1 ⟨v, rfl, hown, hbe⟩
  replace hown : w1.ownsRow w.heap.size 73 3 v 3 [.int .i64 2, .int .i64 0, .int .i64 3, .int .i64 3, .int .i64 0, .int .i64 1, .int .i64 3, .int .i64 0, .int .i64 2] := hown
  obtain ⟨g, cap, rfl, hg⟩ : ∃ g cap, v = .slice (some ⟨g, 0, none⟩) 3 cap ∧ w.heap.size ≤ g := by
    rcases hown.2 with ⟨_, h0⟩ | ⟨g, cap, cur, rfl, hg, _⟩
    · omega
    · exact ⟨g, cap, rfl, hg⟩
  have q0 := hown.cellAt 0 (by omega)
  have q1 := hown.cellAt 1 (by omega)
  have q2 := hown.cellAt 2 (by omega)
  have q6 := hown.cellAt 6 (by omega)
  have q7 := hown.cellAt 7 (by omega)
  have q8 := hown.cellAt 8 (by omega)
  go_wp2_with fail
  go_ret
  exact ⟨rfl, hbe⟩
end Go.Proofs.Ythbkfgafdjcicaa
