/- Parts of the proof, one behind the other. -/
import Derived.Lib.AppendZeros
import Derived.Test.YtmekhdclnhhhbaaKImageReadsb
section
namespace Go.Proofs.Ytmekhdclnhhhbaa
open Go.RowKit
set_option linter.unusedVariables false
set_option maxHeartbeats 400000
set_option maxRecDepth 100000
theorem rBytes_any (A : Option Addr) (len cap : Nat) (xs : List Int) (B : Nat) (w : World) (hr : RowAt w B A len (xs.map (Value.int .u64))) (hi : Ints .u64 xs) (hl : len ≤ 1099511627776) (hB : B ≤ w.heap.size) :
    Calls Try.prog 87 #[.slice A len cap] w fun e w' => ∃ v, e = .returned v ∧ w'.ownsRow w.heap.size 5 1 v (8 * len) ((By.bytes xs).map (Value.int .u8)) ∧ Below w.heap.size w w' := by
  obtain ⟨i0, hi0, hz0, hz1, hz2⟩ := info_parts info_u8
  have HI := Lib.hid hi
  have HR := Lib.hid hr
  have hlen : xs.length = len := by simpa using hr.1
  have HL := Lib.hid hlen
  clear hi hr hlen
  go_enter Try.func87, Try.ntmps87
  go_wp2_with fail
  go_loopw [3, 4, 5, 6] (fun v t _a _b wr => ∃ j : Nat, j ≤ len ∧ t = .int .i64 j ∧ wr.ownsRow w.heap.size 5 1 v (8 * j) ((By.bytes (xs.take j)).map (Value.int .u8)) ∧ Below w.heap.size w wr) (fun _ t _ _ _ => len - (intOf t).toNat)
  case atStart => exact ⟨0, by omega, rfl, World.ownsRow_nil _ _ _ _, Below.refl _ _⟩
  case round =>
    obtain ⟨j, hj, rfl, hown, hbe⟩ := hrel
    have hsz := hbe.size
    by_cases hlt : j < len
    · obtain ⟨b, off, z, rfl, hbl, hz, hwz, hc⟩ := HR.out.int HI.out hlt
      have hzb := bounds_u64 hwz
      have hc2 := (hbe.cell (p := ⟨b, off + j, none⟩) (by simp; omega)).trans hc
      have HT := Lib.hid (take_succ_of hz)
      clear hz hwz hc
      go_wp2_with fail
      go_loopw [3, 5, 6] (fun v x t wr => ∃ k : Nat, k ≤ 8 ∧ t = .int .i64 k ∧ x = .int .u64 (By.rest z k) ∧ wr.ownsRow w.heap.size 5 1 v (8 * j + k) ((By.bytes (xs.take j) ++ By.bytesTo z k).map (Value.int .u8)) ∧ Below w.heap.size w wr) (fun _ _ t _ => 8 - (intOf t).toNat)
      case atStart => exact ⟨0, by omega, rfl, by rw [By.rest_zero z hzb.1], by rw [By.bytesTo_zero, List.append_nil]; exact hown, hbe⟩
      case round =>
        clear hown hbe hc2 hsz
        obtain ⟨k, hk, rfl, rfl, hown, hbe⟩ := hrel
        have hsz := hbe.size
        have hkb := By.rest_bd z k hzb.2
        have hks := Lib.hid (By.rest_succ z k)
        have hbs := Lib.hid (By.bytesTo_succ z k)
        by_cases hlk : k < 8
        · have hba : By.rest z k % 256 = By.byteAt z k := rfl
          have hbb := By.byteAt_bd z k
          have HBA := Lib.hid hba
          go_wp2_with (first
            | (at_builtin; refine wpList_app1 (P := Try.prog) rfl (.tmp 21) (.tmp 25) 49 rfl w.heap.size 5 i0 (.int .u8 0) 1 Try.underlying49 hi0 hz0 hz1 hz2 rfl _ _ _ rfl hown _ _ rfl rfl (by unfold maxLen; omega) (by omega) hsz w.heap.size w hbe (Nat.le_refl _) ?_; intro v' w' hown' hbe' hlt' _))
          go_roundw
          case rel =>
            refine ⟨k + 1, by omega, by go_num, by rw [hks.out], ?_, hbe'⟩
            rw [hbs.out, ← List.append_assoc, By.map_snoc, ← HBA.out]
            exact hown'
          case measure => simp [intOf]; omega
        · obtain rfl : k = 8 := by omega
          go_wp2_with fail
          go_roundw
          case rel =>
            refine ⟨j + 1, by omega, by go_num, ?_, hbe⟩
            rw [HT.out, By.bytes_snoc]
            exact hown
          case measure => simp [intOf]; omega
    · go_wp2_with fail
      go_ret
      obtain rfl : j = len := by omega
      rw [List.take_of_length_le (by rw [HL.out]; exact Nat.le_refl _)] at hown
      exact ⟨_, rfl, hown, hbe⟩
theorem bytes_any (A : Option Addr) (len cap : Nat) (xs : List Int) (B : Nat) (w : World) (hr : RowAt w B A len (xs.map (Value.int .u64))) (hi : Ints .u64 xs) (hl : len ≤ 1099511627776) (hB : B ≤ w.heap.size) :
    Calls Try.prog 86 #[.slice A len cap] w fun e w' => ∃ v, e = .returned v ∧ w'.ownsRow w.heap.size 5 1 v (8 * len) ((By.bytes xs).map (Value.int .u8)) ∧ Below w.heap.size w w' := by
  obtain ⟨i0, hi0, hz0, hz1, hz2⟩ := info_parts info_u8
  have HI := Lib.hid hi
  have HR := Lib.hid hr
  have hlen : xs.length = len := by simpa using hr.1
  have HL := Lib.hid hlen
  clear hi hr hlen
  go_enter Try.func86, Try.ntmps86
  go_wp2_with (first
    | (at_make; refine wpList_make_own (P := Try.prog) _ rfl _ _ 49 rfl w.heap.size 5 i0 (.int .u8 0) 1 Try.underlying49 hi0 hz0 hz1 .i64 .i64 (8 * (len : Int)) (8 * len) rfl rfl (by omega) (by rw [hz2]; omega) (by unfold maxLen; omega) (Nat.le_refl _) ?_; intro w1 hown0 hg0))
  have hb0 : Below w.heap.size w w1 := (Below.refl _ _).grown hg0 (Nat.le_refl _) (by intro k hk; cases hk)
  clear hg0
  go_loopw [3, 5, 6, 13, 17] (fun v _a _b t _c wr => ∃ j : Nat, j ≤ len ∧ t = .int .i64 j ∧ wr.ownsRow w.heap.size 5 1 v (8 * j) ((By.bytes (xs.take j)).map (Value.int .u8)) ∧ Below w.heap.size w wr) (fun _ _ _ t _ _ => len - (intOf t).toNat)
  case atStart => exact ⟨0, by omega, rfl, hown0, hb0⟩
  case round =>
    clear hown0 hb0
    obtain ⟨j, hj, rfl, hown, hbe⟩ := hrel
    have hsz := hbe.size
    by_cases hlt : j < len
    · obtain ⟨b, off, z, rfl, hbl, hz, hwz, hc⟩ := HR.out.int HI.out hlt
      have hzb := bounds_u64 hwz
      have hc2 := (hbe.cell (p := ⟨b, off + j, none⟩) (by simp; omega)).trans hc
      have HT := Lib.hid (take_succ_of hz)
      clear hz hwz hc
      go_wp2_with fail
      go_loopw [3, 6, 17] (fun v _b t wr => ∃ k : Nat, k ≤ 8 ∧ t = .int .i64 k ∧ wr.ownsRow w.heap.size 5 1 v (8 * j + k) ((By.bytes (xs.take j) ++ By.bytesTo z k).map (Value.int .u8)) ∧ Below w.heap.size w wr) (fun _ _ t _ => 8 - (intOf t).toNat)
      case atStart => exact ⟨0, by omega, rfl, by rw [By.bytesTo_zero, List.append_nil]; exact hown, hbe⟩
      case round =>
        clear hown hbe hc2 hsz
        obtain ⟨k, hk, rfl, hown, hbe⟩ := hrel
        have hsz := hbe.size
        have hkb := By.rest_bd z k hzb.2
        have hbs := Lib.hid (By.bytesTo_succ z k)
        by_cases hlk : k < 8
        · have hba : By.rest z k % 256 = By.byteAt z k := rfl
          have hbb := By.byteAt_bd z k
          have HBA := Lib.hid hba
          clear hba
          have hsh := By.rest_shr z k hzb.1
          go_wp2_with (first
            | (at_builtin; refine wpList_app1 (P := Try.prog) rfl (.tmp 20) (.tmp 27) 49 rfl w.heap.size 5 i0 (.int .u8 0) 1 Try.underlying49 hi0 hz0 hz1 hz2 rfl _ _ _ rfl hown _ _ rfl rfl (by unfold maxLen; omega) (by omega) hsz w.heap.size w hbe (Nat.le_refl _) ?_; intro v' w' hown' hbe' hlt' _))
          clear hsh
          go_roundw
          case rel =>
            refine ⟨k + 1, by omega, by go_num, ?_, hbe'⟩
            rw [hbs.out, ← List.append_assoc, By.map_snoc, ← HBA.out]
            exact hown'
          case measure => simp [intOf]; omega
        · obtain rfl : k = 8 := by omega
          go_wp2_with fail
          go_roundw
          case rel =>
            refine ⟨j + 1, by omega, by go_num, ?_, hbe⟩
            rw [HT.out, By.bytes_snoc]
            exact hown
          case measure => simp [intOf]; omega
    · go_wp2_with fail
      go_ret
      obtain rfl : j = len := by omega
      rw [List.take_of_length_le (by rw [HL.out]; exact Nat.le_refl _)] at hown
      exact ⟨_, rfl, hown, hbe⟩
end Go.Proofs.Ytmekhdclnhhhbaa
end

section
namespace Go.Proofs.Ytmekhdclnhhhbaa.Sl
set_option linter.unusedVariables false
open Go Go.RowKit
def sum (n q : Int) : Int := Cr.more 0 (By.bytes [n, q])
theorem sum_bd (n q : Int) : 0 ≤ Cr.more 0 (By.bytes [n, q]) ∧ Cr.more 0 (By.bytes [n, q]) ≤ 4294967295 := Cr.more_bd 0 _ (by omega) (by omega) (By.bytes_bd _)
end Go.Proofs.Ytmekhdclnhhhbaa.Sl
end

section
namespace Go.Proofs.Ytmekhdclnhhhbaa
open Go.RowKit
set_option linter.unusedVariables false
set_option maxHeartbeats 400000
theorem crcWords_any (A : Option Addr) (len cap : Nat) (xs : List Int) (B : Nat) (w : World) (hr : RowAt w B A len (xs.map (Value.int .u64))) (hi : Ints .u64 xs) (hl : len ≤ 1099511627776) (hB : B ≤ w.heap.size) :
    Calls Try.prog 82 #[.slice A len cap] w fun e w' => e = .returned (.int .u32 (Cr.more 0 (By.bytes xs))) ∧ Below w.heap.size w w' := by
  go_enter Try.func82, Try.ntmps82
  go_wp2_with fail
  refine (bytes_any A len cap xs B _ hr hi hl hB).mono ?_
  rintro e w1 ⟨v, rfl, hown, hb⟩
  obtain ⟨A', c', rfl, hc1, hc2, _⟩ := own_shape hown
  go_wp2_with fail
  refine (sum_any A' (8 * len) c' (By.bytes xs) _ _ (RowAt.of_own hown) (fun z hz => wf_u8 (By.bytes_bd xs z hz)) (by omega)).mono ?_
  rintro e w' ⟨rfl, rfl⟩
  go_wp2_with fail
  go_ret
  exact ⟨rfl, hb⟩
theorem rCrcWords_any (A : Option Addr) (len cap : Nat) (xs : List Int) (B : Nat) (w : World) (hr : RowAt w B A len (xs.map (Value.int .u64))) (hi : Ints .u64 xs) (hl : len ≤ 1099511627776) (hB : B ≤ w.heap.size) :
    Calls Try.prog 66 #[.slice A len cap] w fun e w' => e = .returned (.int .u32 (Cr.more 0 (By.bytes xs))) ∧ Below w.heap.size w w' := by
  go_enter Try.func66, Try.ntmps66
  go_wp2_with fail
  refine (rBytes_any A len cap xs B _ hr hi hl hB).mono ?_
  rintro e w1 ⟨v, rfl, hown, hb⟩
  obtain ⟨A', c', rfl, hc1, hc2, _⟩ := own_shape hown
  go_wp2_with fail
  refine (rMore_any 0 A' (8 * len) c' (By.bytes xs) _ _ (by omega) (by omega) (RowAt.of_own hown) (fun z hz => wf_u8 (By.bytes_bd xs z hz)) (by omega)).mono ?_
  rintro e w' ⟨rfl, rfl⟩
  go_wp2_with fail
  go_ret
  exact ⟨rfl, hb⟩
end Go.Proofs.Ytmekhdclnhhhbaa
end

section
namespace Go.Proofs.Ytmekhdclnhhhbaa.Im
def zr : List Int → Nat
  | [] => 0
  | x :: l => if x = 0 then zr l + 1 else 0
def nr : List Int → Nat
  | [] => 0
  | x :: l => if x = 0 then 0 else nr l + 1
theorem zr_le : ∀ l, zr l ≤ l.length
  | [] => Nat.le_refl _
  | x :: l => by have := zr_le l; unfold zr; split <;> simp <;> omega
theorem nr_le : ∀ l, nr l ≤ l.length
  | [] => Nat.le_refl _
  | x :: l => by have := nr_le l; unfold nr; split <;> simp <;> omega
theorem zr_get : ∀ (l : List Int) (k : Nat), k < zr l → l[k]? = some 0
  | [], k, h => by simp [zr] at h
  | x :: l, k, h => by
    unfold zr at h
    split at h
    · rename_i hx
      cases k with
      | zero => simp [hx]
      | succ k => simpa using zr_get l k (by omega)
    · omega
theorem zr_end : ∀ (l : List Int), zr l < l.length → ∃ z, l[zr l]? = some z ∧ z ≠ 0
  | [], h => by simp at h
  | x :: l, h => by
    unfold zr at h ⊢
    split
    · rename_i hx
      rw [if_pos hx] at h
      obtain ⟨z, hz, h0⟩ := zr_end l (by simpa using h)
      exact ⟨z, by simpa using hz, h0⟩
    · rename_i hx; exact ⟨x, by simp, hx⟩
theorem nr_get : ∀ (l : List Int) (k : Nat), k < nr l → ∃ z, l[k]? = some z ∧ z ≠ 0
  | [], k, h => by simp [nr] at h
  | x :: l, k, h => by
    unfold nr at h
    split at h
    · omega
    · rename_i hx
      cases k with
      | zero => exact ⟨x, by simp, hx⟩
      | succ k => simpa using nr_get l k (by omega)
theorem nr_end : ∀ (l : List Int), nr l < l.length → l[nr l]? = some 0
  | [], h => by simp at h
  | x :: l, h => by
    unfold nr at h ⊢
    split
    · rename_i hx; simp [hx]
    · rename_i hx
      rw [if_neg hx] at h
      simpa using nr_end l (by simpa using h)
/-- how many words the first run has -/
def step (l : List Int) : Nat := zr l + nr (l.drop (zr l))
theorem step_le (l : List Int) : step l ≤ l.length := by
  have h1 := zr_le l; have h2 := nr_le (l.drop (zr l)); rw [List.length_drop] at h2; unfold step; omega
theorem step_pos (l : List Int) (h : l ≠ []) : 0 < step l := by
  cases l with
  | nil => exact absurd rfl h
  | cons x l =>
    unfold step
    by_cases hx : x = 0
    · simp [zr, hx]; omega
    · simp [zr, nr, hx]
def runs : Nat → List Int → List (Nat × List Int)
  | 0, _ => []
  | f + 1, l => if l = [] then [] else (zr l, (l.drop (zr l)).take (nr (l.drop (zr l)))) :: runs f (l.drop (step l))
theorem runs_fuel : ∀ (f g : Nat) (l : List Int), l.length ≤ f → l.length ≤ g → runs f l = runs g l
  | 0, g, l, h, _ => by
    obtain rfl : l = [] := List.eq_nil_of_length_eq_zero (by omega)
    cases g <;> simp [runs]
  | f + 1, 0, l, _, h => by
    obtain rfl : l = [] := List.eq_nil_of_length_eq_zero (by omega)
    simp [runs]
  | f + 1, g + 1, l, h1, h2 => by
    unfold runs
    split
    · rfl
    · rename_i hl
      have h3 := step_pos l hl
      have h4 := step_le l
      rw [runs_fuel f g (l.drop (step l)) (by rw [List.length_drop]; omega) (by rw [List.length_drop]; omega)]
def rn (l : List Int) : List (Nat × List Int) := runs l.length l
theorem rn_nil : rn [] = [] := rfl
theorem rn_cons (l : List Int) (h : l ≠ []) : rn l = (zr l, (l.drop (zr l)).take (nr (l.drop (zr l)))) :: rn (l.drop (step l)) := by
  have h1 := step_pos l h
  have h2 := step_le l
  have e : (l.length - 1) + 1 = l.length := by omega
  have e2 : runs l.length l = runs ((l.length - 1) + 1) l := by rw [e]
  unfold rn
  rw [e2]
  show (if l = [] then [] else (zr l, (l.drop (zr l)).take (nr (l.drop (zr l)))) :: runs (l.length - 1) (l.drop (step l))) = _
  rw [if_neg h]
  congr 1
  exact runs_fuel (l.length - 1) (l.drop (step l)).length (l.drop (step l)) (by rw [List.length_drop]; omega) (Nat.le_refl _)
def enc1 (r : Nat × List Int) : List Int := (r.1 : Int) :: (r.2.length : Int) :: r.2
def encs (rs : List (Nat × List Int)) : List Int := rs.flatMap enc1
def body (l : List Int) : List Int := encs (rn l)
theorem body_nil : body [] = [] := rfl
theorem body_cons (l : List Int) (h : l ≠ []) : body l = (zr l : Int) :: (nr (l.drop (zr l)) : Int) :: ((l.drop (zr l)).take (nr (l.drop (zr l))) ++ body (l.drop (step l))) := by
  unfold body
  rw [rn_cons l h]
  have h2 := nr_le (l.drop (zr l))
  simp only [encs, List.flatMap_cons, enc1, List.cons_append, List.length_take, Nat.min_eq_left h2]
theorem body_len : ∀ (k : Nat) (l : List Int), l.length ≤ k → (body l).length ≤ 3 * l.length
  | 0, l, h => by
    obtain rfl : l = [] := List.eq_nil_of_length_eq_zero (by omega)
    simp [body_nil]
  | k + 1, l, h => by
    by_cases hl : l = []
    · subst hl; simp [body_nil]
    · have h1 := step_pos l hl
      have h2 := step_le l
      have ih := body_len k (l.drop (step l)) (by rw [List.length_drop]; omega)
      have h3 := nr_le (l.drop (zr l))
      have h4 := zr_le l
      rw [body_cons l hl]
      simp only [List.length_cons, List.length_append, List.length_take]
      rw [List.length_drop] at ih h3
      rw [List.length_drop]
      have : step l = zr l + nr (l.drop (zr l)) := rfl
      omega
def magic : Int := 13905993476890996
def head (l : List Int) : List Int := magic :: (l.length : Int) :: body l
def sum (l : List Int) : Int := Cr.more 0 (By.bytes l)
def out (l : List Int) : List Int := head l ++ [sum (head l)]
def save (l : List Int) : List Int := By.bytes (out l)
/-! reading -/
def bad (z m left o : Int) : Bool := decide (z > left ∨ m > left - z ∨ z + m = 0 ∨ (0 < o ∧ z = 0) ∨ (m = 0 ∧ z ≠ left))
def noZero (l : List Int) : Bool := l.all (fun x => decide (x ≠ 0))
def read : Nat → List Int → Int → List Int → List Int × Int
  | 0, _, _, _ => ([], 31)
  | f + 1, w, n, o =>
    if (o.length : Int) < n then
      if w.length < 2 then ([], 31)
      else if bad (w.getD 0 0) (w.getD 1 0) (n - o.length) o.length = true then ([], 26)
      else if (w.getD 1 0) > ((w.drop 2).length : Int) then ([], 31)
      else if noZero ((w.drop 2).take (w.getD 1 0).toNat) = true then read f ((w.drop 2).drop (w.getD 1 0).toNat) n (o ++ List.replicate (w.getD 0 0).toNat 0 ++ (w.drop 2).take (w.getD 1 0).toNat)
      else ([], 26)
    else if w.length > 0 then ([], 32) else (o, 0)
def load (d : List Int) : List Int × Int :=
  if d.length < 24 ∨ d.length % 8 ≠ 0 then ([], 31)
  else if (By.words d).getD 0 0 ≠ magic then ([], 24)
  else if (By.words d).getD ((By.words d).length - 1) 0 ≠ sum ((By.words d).take ((By.words d).length - 1)) then ([], 25)
  else if (By.words d).getD 1 0 > 131072 ∨ (By.words d).getD 1 0 % 8 ≠ 0 then ([], 26)
  else read (((By.words d).getD 1 0).toNat + 1) (((By.words d).take ((By.words d).length - 1)).drop 2) ((By.words d).getD 1 0) []
def fresh (o l : List Int) : Prop := o = [] ∨ l = [] ∨ l[0]? = some 0
theorem zeros_take (l : List Int) : l.take (zr l) = List.replicate (zr l) 0 := by
  apply List.ext_getElem?
  intro i
  rw [List.getElem?_take, List.getElem?_replicate]
  split
  · rename_i h; exact zr_get l i h
  · rfl
theorem split_step (l : List Int) : List.replicate (zr l) 0 ++ (l.drop (zr l)).take (nr (l.drop (zr l))) ++ l.drop (step l) = l := by
  rw [← zeros_take]
  have : l.drop (step l) = (l.drop (zr l)).drop (nr (l.drop (zr l))) := by rw [List.drop_drop]; rfl
  rw [this, List.append_assoc, List.take_append_drop, List.take_append_drop]
theorem zr_rep (z : Nat) (l : List Int) (h : ∀ x, l[0]? = some x → x ≠ 0) : zr (List.replicate z 0 ++ l) = z := by
  induction z with
  | zero =>
    cases l with
    | nil => rfl
    | cons x t => have := h x (by simp); simp [zr, this]
  | succ z ih => rw [List.replicate_succ, List.cons_append, zr, if_pos rfl, ih]
theorem nr_app (l r : List Int) (h : noZero l = true) (h2 : r = [] ∨ r[0]? = some 0) : nr (l ++ r) = l.length := by
  induction l with
  | nil =>
    rcases h2 with rfl | h2
    · rfl
    · cases r with
      | nil => rfl
      | cons x t => simp at h2; simp [nr, h2]
  | cons x t ih =>
    unfold noZero at h
    simp only [List.all_cons, Bool.and_eq_true, decide_eq_true_eq] at h
    rw [List.cons_append, nr, if_neg h.1, ih h.2, List.length_cons]
theorem read_back : ∀ (f : Nat) (w o R : List Int) (n : Int), (∀ x ∈ w, 0 ≤ x) → read f w n o = (R, 0) → ∃ l, R = o ++ l ∧ w = body l ∧ fresh o l ∧ ((o.length : Int) ≤ n → (R.length : Int) = n)
  | 0, w, o, R, n, _, h => by simp [read] at h
  | f + 1, w, o, R, n, hp, h => by
    unfold read at h
    split at h
    · rename_i h1
      split at h
      · cases h
      rename_i h2
      split at h
      · cases h
      rename_i h3
      split at h
      · cases h
      rename_i h4
      split at h
      · rename_i h5
        obtain ⟨a, b, t, rfl⟩ : ∃ a b t, w = a :: b :: t := by
          rcases w with _ | ⟨a, _ | ⟨b, t⟩⟩
          · simp at h2
          · simp at h2
          · exact ⟨a, b, t, rfl⟩
        · skip
          have ha := hp a (by simp)
          have hb := hp b (by simp)
          simp only [List.drop_succ_cons, List.drop_zero, List.getD_cons_zero, List.getD_cons_succ] at h h3 h4 h5
          unfold bad at h3
          simp only [Bool.not_eq_true, decide_eq_false_iff_not, not_or, not_and] at h3
          obtain ⟨g1, g2, g3, g4, g5⟩ := h3
          obtain ⟨l, hR, hw, hf, hn⟩ := read_back f (t.drop b.toNat) _ R n (fun x hx => hp x (by simp [List.mem_of_mem_drop hx])) h
          have lt : (t.take b.toNat).length = b.toNat := by rw [List.length_take]; omega
          have hno : (o ++ List.replicate a.toNat 0 ++ t.take b.toNat).length = o.length + a.toNat + b.toNat := by simp [lt]; omega
          have hnn := hn (by rw [hno]; omega)
          have hl : l = [] ∨ l[0]? = some 0 := by
            rcases hf with hf | hf
            · exfalso
              have := congrArg List.length hf
              rw [hno] at this
              simp at this
              omega
            · exact hf
          have e0 : R = o ++ (List.replicate a.toNat 0 ++ (t.take b.toNat ++ l)) := by rw [hR]; simp only [List.append_assoc]
          have ez : zr (List.replicate a.toNat 0 ++ (t.take b.toNat ++ l)) = a.toNat := by
            apply zr_rep
            intro x hx
            by_cases hb0 : b = 0
            · have : R.length = o.length + a.toNat + l.length := by rw [e0]; simp [hb0]; omega
              have hl0 : l.length = 0 := by have := g5 hb0; omega
              have : l = [] := List.eq_nil_of_length_eq_zero hl0
              subst this
              simp [hb0] at hx
            · have hx2 : (t.take b.toNat)[0]? = some x := by rw [List.getElem?_append_left (by omega)] at hx; exact hx
              unfold noZero at h5
              rw [List.all_eq_true] at h5
              simpa using h5 x (List.mem_of_getElem? hx2)
          have ed : (List.replicate a.toNat 0 ++ (t.take b.toNat ++ l)).drop a.toNat = t.take b.toNat ++ l := List.drop_left' (by simp)
          have en : nr (t.take b.toNat ++ l) = b.toNat := by rw [nr_app _ _ h5 hl, lt]
          have hne : List.replicate a.toNat (0 : Int) ++ (t.take b.toNat ++ l) ≠ [] := by
            intro hh
            have := congrArg List.length hh
            simp only [List.length_append, List.length_replicate, lt, List.length_nil] at this
            omega
          refine ⟨_, e0, ?_, ?_, fun _ => hnn⟩
          · rw [body_cons _ hne]
            have es : step (List.replicate a.toNat 0 ++ (t.take b.toNat ++ l)) = a.toNat + b.toNat := by unfold step; rw [ez, ed, en]
            rw [es, ez, ed, en, ← List.drop_drop, ed, List.take_left' lt, List.drop_left' lt, ← hw, List.take_append_drop]
            congr 1
            · omega
            · congr 1; omega
          · by_cases ho : o = []
            · exact .inl ho
            · right; right
              have ho2 : 0 < o.length := List.length_pos_iff.2 ho
              have ha0 : a ≠ 0 := fun e => g4 (by omega) e
              have : a.toNat = (a.toNat - 1) + 1 := by omega
              rw [this, List.replicate_succ]; rfl
      · cases h
    · rename_i h1
      split at h
      · cases h
      · rename_i h2
        obtain rfl : w = [] := List.eq_nil_of_length_eq_zero (by omega)
        injection h with h _
        subst h
        exact ⟨[], by simp, rfl, .inr (.inl rfl), fun h => by omega⟩
theorem byte_low (bs : List Int) (h : By.IsBytes bs) (i : Nat) : ∀ t j, j < t → By.byteAt (By.low bs i t) j = bs.getD (i + j) 0 := by
  intro t
  induction t with
  | zero => intro j hj; omega
  | succ t ih =>
    intro j hj
    have hb := By.low_bd bs h i t
    have hg := By.getD_bd bs h (i + t)
    unfold By.byteAt By.rest
    have e : By.low bs i (t + 1) = By.low bs i t + bs.getD (i + t) 0 * 256 ^ t := rfl
    obtain ⟨L, hL⟩ := Int.eq_ofNat_of_zero_le hb.1
    obtain ⟨G, hG⟩ := Int.eq_ofNat_of_zero_le hg.1
    have e2 : (By.low bs i (t + 1)).toNat = L + G * 256 ^ t := by
      rw [e, hL, hG]
      have : ((L : Int) + (G : Int) * 256 ^ t) = ((L + G * 256 ^ t : Nat) : Int) := by rw [Int.natCast_add, Int.natCast_mul, By.pow256]
      rw [this, Int.toNat_natCast]
    have hL2 : L < 256 ^ t := by
      have h2 := hb.2
      rw [hL] at h2
      have h3 : ((256 : Int) ^ t) = ((256 ^ t : Nat) : Int) := (By.pow256 t).symm
      rw [h3] at h2
      exact Int.ofNat_lt.1 h2
    rw [e2]
    by_cases hjt : j = t
    · subst hjt
      rw [Nat.add_mul_div_right _ _ (Nat.pow_pos (by omega)), Nat.div_eq_of_lt hL2, Nat.zero_add, hG]
      have : G ≤ 255 := by have := hg.2; omega
      omega
    · have hj2 : j < t := by omega
      have ih2 := ih j hj2
      unfold By.byteAt By.rest at ih2
      rw [hL, Int.toNat_natCast] at ih2
      rw [← ih2]
      have e3 : (L + G * 256 ^ t) / 256 ^ j % 256 = L / 256 ^ j % 256 := by
        obtain ⟨q, rfl⟩ : ∃ q, t = j + 1 + q := ⟨t - (j + 1), by omega⟩
        have : G * 256 ^ (j + 1 + q) = (G * 256 ^ q * 256) * 256 ^ j := by
          rw [Nat.pow_add, Nat.pow_succ]
          simp only [Nat.mul_assoc, Nat.mul_comm, Nat.mul_left_comm]
        rw [this, Nat.add_mul_div_right _ _ (Nat.pow_pos (by omega)), Nat.add_mul_mod_self_right]
      have e4 : (((L + G * 256 ^ t) / 256 ^ j : Nat) : Int) % 256 = (((L + G * 256 ^ t) / 256 ^ j % 256 : Nat) : Int) := by generalize (L + G * 256 ^ t) / 256 ^ j = q; omega
      have e5 : ((L / 256 ^ j : Nat) : Int) % 256 = ((L / 256 ^ j % 256 : Nat) : Int) := by generalize L / 256 ^ j = q; omega
      rw [e4, e5, e3]
theorem byte_word (bs : List Int) (h : By.IsBytes bs) (q r : Nat) (hr : r < 8) : By.byteAt (By.word bs q) r = bs.getD (8 * q + r) 0 := by
  unfold By.word
  exact byte_low bs h (8 * q) 8 r hr
/-- the words of bytes, as bytes -/
theorem bytes_words (d : List Int) (h : By.IsBytes d) (h8 : d.length % 8 = 0) : By.bytes (By.words d) = d := by
  apply List.ext_getElem?
  intro i
  have hl := By.bytes_len (By.words d)
  rw [By.words_len] at hl
  by_cases hi : i < d.length
  · have hw : (By.words d)[i / 8]? = some (By.word d (i / 8)) := by
      unfold By.words
      rw [List.getElem?_map, List.getElem?_range (by omega)]; rfl
    have hb := By.bytes_get (By.words d) (i / 8) (i % 8) _ hw (Nat.mod_lt _ (by omega))
    rw [Nat.div_add_mod] at hb
    rw [hb]
    have := byte_word d h (i / 8) (i % 8) (Nat.mod_lt _ (by omega))
    rw [Nat.div_add_mod] at this
    rw [this, List.getD_eq_getElem?_getD, List.getElem?_eq_getElem hi]; rfl
  · rw [List.getElem?_eq_none (by omega), List.getElem?_eq_none (by omega)]
end Go.Proofs.Ytmekhdclnhhhbaa.Im
end

section
namespace Go.Proofs.Ytmekhdclnhhhbaa.Im
def U (l : List Int) : Prop := ∀ x ∈ l, 0 ≤ x ∧ x ≤ 18446744073709551615
theorem U.drop {l : List Int} (h : U l) (k : Nat) : U (l.drop k) := fun x hx => h x (List.mem_of_mem_drop hx)
theorem U.take {l : List Int} (h : U l) (k : Nat) : U (l.take k) := fun x hx => h x (List.mem_of_mem_take hx)
theorem body_bd : ∀ (k : Nat) (l : List Int), l.length ≤ k → l.length ≤ 1000000 → U l → U (body l)
  | 0, l, h, _, _ => by
    obtain rfl : l = [] := List.eq_nil_of_length_eq_zero (by omega)
    intro x hx; rw [body_nil] at hx; cases hx
  | k + 1, l, h, hb, hU => by
    by_cases hl : l = []
    · subst hl; intro x hx; rw [body_nil] at hx; cases hx
    · have h1 := step_pos l hl
      have h2 := step_le l
      have h3 := zr_le l
      have h4 := nr_le (l.drop (zr l))
      rw [List.length_drop] at h4
      have ih := body_bd k (l.drop (step l)) (by rw [List.length_drop]; omega) (by rw [List.length_drop]; omega) (hU.drop _)
      rw [body_cons l hl]
      intro x hx
      rcases List.mem_cons.1 hx with rfl | hx
      · omega
      rcases List.mem_cons.1 hx with rfl | hx
      · omega
      rcases List.mem_append.1 hx with hx | hx
      · exact (hU.drop _).take _ x hx
      · exact ih x hx
theorem mem_body : ∀ (k : Nat) (l : List Int), l.length ≤ k → ∀ x ∈ l, x = 0 ∨ x ∈ body l
  | 0, l, h, x, hx => by
    obtain rfl : l = [] := List.eq_nil_of_length_eq_zero (by omega)
    cases hx
  | k + 1, l, h, x, hx => by
    by_cases hl : l = []
    · subst hl; cases hx
    · have h1 := step_pos l hl
      have h2 := step_le l
      rw [body_cons l hl]
      rw [← split_step l] at hx
      rcases List.mem_append.1 hx with hx | hx
      · rcases List.mem_append.1 hx with hx | hx
        · exact .inl (List.mem_replicate.1 hx).2
        · exact .inr (List.mem_cons_of_mem _ (List.mem_cons_of_mem _ (List.mem_append_left _ hx)))
      · rcases mem_body k (l.drop (step l)) (by rw [List.length_drop]; omega) x hx with h3 | h3
        · exact .inl h3
        · exact .inr (List.mem_cons_of_mem _ (List.mem_cons_of_mem _ (List.mem_append_right _ h3)))
theorem sum_bd (l : List Int) : 0 ≤ sum l ∧ sum l ≤ 4294967295 := Cr.more_bd 0 _ (by omega) (by omega) (By.bytes_bd _)
theorem head_bd {l : List Int} (hb : l.length ≤ 1000000) (hU : U l) : U (head l) := by
  intro x hx
  rcases List.mem_cons.1 hx with rfl | hx
  · decide
  rcases List.mem_cons.1 hx with rfl | hx
  · omega
  · exact body_bd _ l (Nat.le_refl _) hb hU x hx
theorem out_bd {l : List Int} (hb : l.length ≤ 1000000) (hU : U l) : U (out l) := by
  intro x hx
  rcases List.mem_append.1 hx with hx | hx
  · exact head_bd hb hU x hx
  · rw [List.mem_singleton.1 hx]; have := sum_bd (head l); omega
theorem out_len (l : List Int) : (out l).length = (body l).length + 3 := by simp [out, head]
theorem save_len (l : List Int) : (save l).length = 8 * ((body l).length + 3) := by unfold save; rw [By.bytes_len, out_len]
theorem save_load {d R : List Int} (hd : By.IsBytes d) (h : load d = (R, 0)) : save R = d ∧ R.length ≤ 131072 ∧ R.length % 8 = 0 ∧ U R := by
  unfold load at h
  split at h
  · cases h
  rename_i h1
  split at h
  · cases h
  rename_i h2
  split at h
  · cases h
  rename_i h3
  split at h
  · cases h
  rename_i h4
  have hlen : (By.words d).length = d.length / 8 := by rw [By.words_len]; omega
  have hpos := By.words_wf d hd
  generalize hwd : By.words d = w at *
  obtain ⟨l, hR, hbody, _, hn⟩ := read_back _ _ _ _ _ (fun x hx => (hpos x (List.mem_of_mem_take (List.mem_of_mem_drop hx))).1) h
  rw [List.nil_append] at hR
  subst hR
  have hw1 : 0 ≤ w.getD 1 0 := by
    rw [List.getD_eq_getElem?_getD, List.getElem?_eq_getElem (by omega)]
    exact (hpos _ (List.getElem_mem _)).1
  have hRn := hn (by simpa using hw1)
  have e : w = out R := by
    unfold out head
    rw [← hbody]
    match w, hlen with
    | a :: b :: c :: t, hlen =>
      have ha : a = magic := by simpa using h2
      have hbR : b = (R.length : Int) := by simpa using hRn.symm
      simp only [List.length_cons, Nat.add_sub_cancel] at h3 ⊢
      have hs := h3
      simp only [Decidable.not_not] at hs
      have t1 : (a :: b :: c :: t).take (t.length + 1 + 1) = a :: b :: ((c :: t).take t.length) := rfl
      rw [t1] at hs ⊢
      have d1 : (a :: b :: List.take t.length (c :: t)).drop 2 = (c :: t).take t.length := rfl
      rw [d1]
      have l1 : (a :: b :: c :: t).getD (t.length + 1 + 1) 0 = (c :: t).getD t.length 0 := rfl
      rw [l1, ha, hbR] at hs
      rw [ha, hbR, ← hs]
      simp only [List.cons_append]
      congr 2
      have hlt : t.length < (c :: t).length := by simp
      have := List.take_append_getElem hlt
      rw [List.getD_eq_getElem?_getD, List.getElem?_eq_getElem hlt]
      simp only [Option.getD_some]
      rw [this]; exact (List.take_of_length_le (by simp)).symm
    | [], hlen => simp at hlen; omega
    | [_], hlen => simp at hlen; omega
    | [_, _], hlen => simp at hlen; omega
  refine ⟨?_, by omega, by omega, fun x hx => ?_⟩
  · unfold save
    rw [← e, ← hwd]
    exact bytes_words d hd (by omega)
  · rcases mem_body _ R (Nat.le_refl _) x hx with h0 | h0
    · subst h0; decide
    · refine hpos x ?_
      rw [e]; unfold out head
      exact List.mem_append_left _ (List.mem_cons_of_mem _ (List.mem_cons_of_mem _ h0))
end Go.Proofs.Ytmekhdclnhhhbaa.Im
end

section
namespace Go.Proofs.Ytmekhdclnhhhbaa
open Go.RowKit
set_option linter.unusedSimpArgs false
set_option linter.unusedVariables false
theorem ints_u64 {xs : List Int} (h : Im.U xs) : Ints .u64 xs := fun z hz => wf_u64 (h z hz)
theorem ints_u8 {xs : List Int} (h : By.IsBytes xs) : Ints .u8 xs := fun z hz => wf_u8 (h z hz)
theorem cWords (A : Option Addr) (n c : Nat) (xs : List Int) (w : World) (hz : Sees (Value.int .u64) w [] A xs) (hl : xs.length = n) (hU : Im.U xs) (hn : n ≤ 1000000000) :
    Calls Try.prog 82 [.slice A n c].toArray w fun e w' => e = .returned (.int .u32 (Im.sum xs)) ∧ Only [] w w' :=
  (crcWords_any A n c xs _ w (hz.row hl) (ints_u64 hU) (by omega) (Nat.le_refl _)).mono fun _ _ h => ⟨h.1, Only.of_below h.2 _⟩
theorem rcWords (A : Option Addr) (n c : Nat) (xs : List Int) (w : World) (hz : Sees (Value.int .u64) w [] A xs) (hl : xs.length = n) (hU : Im.U xs) (hn : n ≤ 1000000000) :
    Calls Try.prog 66 [.slice A n c].toArray w fun e w' => e = .returned (.int .u32 (Im.sum xs)) ∧ Only [] w w' :=
  (rCrcWords_any A n c xs _ w (hz.row hl) (ints_u64 hU) (by omega) (Nat.le_refl _)).mono fun _ _ h => ⟨h.1, Only.of_below h.2 _⟩
/-- a row of integers that the call made -/
def Gives (k : IntKind) (T : TypeId) (xs : List Int) (w : World) (e : Ending) (w' : World) : Prop :=
  ∃ A c, e = .returned (.slice A xs.length c) ∧ Heap w [] [ownN 1 (.slice A xs.length c) xs.length (xs.map (Value.int k)) T] w'
theorem cBytes (A : Option Addr) (n c : Nat) (xs : List Int) (w : World) (hz : Sees (Value.int .u64) w [] A xs) (hl : xs.length = n) (hU : Im.U xs) (hn : n ≤ 1000000000) :
    Calls Try.prog 86 [.slice A n c].toArray w (Gives .u8 5 (By.bytes xs) w) :=
  (bytes_any A n c xs _ w (hz.row hl) (ints_u64 hU) (by omega) (Nat.le_refl _)).mono fun _ _ ⟨v, he, ho, hb⟩ => by
    obtain ⟨A', c', rfl, H⟩ := own_heap ho hb
    have e : (By.bytes xs).length = 8 * n := by rw [By.bytes_len, hl]
    unfold Gives
    rw [e]
    exact ⟨A', c', he, H⟩
theorem cWordsOf (A : Option Addr) (n c : Nat) (xs : List Int) (w : World) (hz : Sees (Value.int .u8) w [] A xs) (hl : xs.length = n) (hU : By.IsBytes xs) (hn : n ≤ 1000000) :
    Calls Try.prog 81 [.slice A n c].toArray w (Gives .u64 22 (By.words xs) w) :=
  (words_any8 A n c xs _ w (hz.row hl) (ints_u8 hU) hn (Nat.le_refl _)).mono fun _ _ ⟨v, he, ho, hb⟩ => by
    obtain ⟨A', c', rfl, H⟩ := own_heap ho hb
    exact ⟨A', c', he, H⟩
theorem rcWordsOf (A : Option Addr) (n c : Nat) (xs : List Int) (w : World) (hz : Sees (Value.int .u8) w [] A xs) (hl : xs.length = n) (hU : By.IsBytes xs) (hn : n ≤ 1000000) :
    Calls Try.prog 84 [.slice A n c].toArray w (Gives .u64 22 (By.words xs) w) :=
  (rwords_any8 A n c xs _ w (hz.row hl) (ints_u8 hU) hn (Nat.le_refl _)).mono fun _ _ ⟨v, he, ho, hb⟩ => by
    obtain ⟨A', c', rfl, H⟩ := own_heap ho hb
    exact ⟨A', c', he, H⟩
end Go.Proofs.Ytmekhdclnhhhbaa
end

section
namespace Go.Proofs.Ytmekhdclnhhhbaa
open Go.RowKit
set_option linter.unusedSimpArgs false
set_option linter.unusedVariables false
/-- a run in memory -/
structure RunS where
  z : Nat
  l : List Int
  A : Option Addr
  c : Nat
def RunS.C (r : RunS) : List C1 := [.i .i64 r.z, .s r.A r.l.length r.c]
def RunS.E (r : RunS) : Ent := ownN 1 (.slice r.A r.l.length r.c) r.l.length (r.l.map (Value.int .u64)) 22
def RunS.P (r : RunS) : Nat × List Int := (r.z, r.l)
theorem own0 {w0 W : World} {F : List Nat} {L : List Ent} (H : Heap w0 F L W) (T : TypeId) : Heap w0 F (ownN 1 (.slice none 0 0) 0 (([] : List Int).map (Value.int .u64)) T :: L) W := H.own_nil 1 T
theorem own02 {w0 W : World} {F : List Nat} {L : List Ent} (H : Heap w0 F L W) (T : TypeId) : Heap w0 F (ownN 2 (.slice none 0 0) 0 (([] : List C1).map C1.v) T :: L) W := H.own_nil 2 T
theorem take_snoc {α : Type} {l : List α} {k : Nat} {x : α} (h : l[k]? = some x) : l.take k ++ [x] = l.take (k + 1) := by rw [List.take_add_one, h]; rfl
/-- the run that begins at i -/
theorem run_at (ws : List Int) (i n : Nat) (hl : ws.length = n) (hlt : i < n) (w : World) (b o : Nat) (hr : Reads (Value.int .u64) w b o ws) :
    ∃ (Z : Nat) (R : List Int), R = ws.drop (i + Z) ∧ i + Z ≤ n ∧ i + Z + Im.nr R ≤ n ∧ 0 < Z + Im.nr R ∧ Im.rn (ws.drop i) = (Z, R.take (Im.nr R)) :: Im.rn (ws.drop (i + Z + Im.nr R)) ∧ (R.take (Im.nr R)).length = Im.nr R ∧
      (∀ k, k < Z → w.cell? ⟨b, o + (i + k), none⟩ = some (.int .u64 0)) ∧ (i + Z < n → ∃ z, w.cell? ⟨b, o + (i + Z), none⟩ = some (.int .u64 z) ∧ z ≠ 0) ∧
      (∀ k, k < Im.nr R → ∃ z, R[k]? = some z ∧ w.cell? ⟨b, o + (i + Z + k), none⟩ = some (.int .u64 z) ∧ z ≠ 0) ∧ (i + Z + Im.nr R < n → w.cell? ⟨b, o + (i + Z + Im.nr R), none⟩ = some (.int .u64 0)) := by
  have hne : ws.drop i ≠ [] := by
    intro h
    have := congrArg List.length h
    rw [List.length_drop] at this
    simp at this; omega
  have hs := Im.rn_cons _ hne
  have hz1 := Im.zr_le (ws.drop i)
  have hz2 := Im.nr_le ((ws.drop i).drop (Im.zr (ws.drop i)))
  have hsp := Im.step_pos _ hne
  have hst : Im.step (ws.drop i) = Im.zr (ws.drop i) + Im.nr ((ws.drop i).drop (Im.zr (ws.drop i))) := rfl
  rw [List.length_drop] at hz1
  rw [List.length_drop, List.length_drop] at hz2
  refine ⟨Im.zr (ws.drop i), (ws.drop i).drop (Im.zr (ws.drop i)), by rw [List.drop_drop], by omega, by omega, by omega, ?_, by rw [List.length_take, List.length_drop, List.length_drop]; omega, fun k hk => hr (i + k) 0 ?_, fun hk => ?_, fun k hk => ?_, fun hk => ?_⟩
  · rw [hs, hst]
    generalize Im.nr (List.drop (Im.zr (List.drop i ws)) (List.drop i ws)) = q
    generalize Im.zr (List.drop i ws) = y
    rw [show List.drop (y + q) (List.drop i ws) = List.drop (i + y + q) ws by rw [List.drop_drop, Nat.add_assoc]]
  · have := Im.zr_get _ k hk
    rwa [List.getElem?_drop] at this
  · obtain ⟨z, h1, h2⟩ := Im.zr_end (ws.drop i) (by rw [List.length_drop]; omega)
    rw [List.getElem?_drop] at h1
    exact ⟨z, hr _ z h1, h2⟩
  · obtain ⟨z, h1, h2⟩ := Im.nr_get _ k hk
    have h3 := h1
    rw [List.getElem?_drop, List.getElem?_drop] at h3
    exact ⟨z, h1, by have := hr _ z h3; rwa [← Nat.add_assoc i] at this, h2⟩
  · have h1 := Im.nr_end ((ws.drop i).drop (Im.zr (ws.drop i))) (by rw [List.length_drop, List.length_drop]; omega)
    rw [List.getElem?_drop, List.getElem?_drop] at h1
    have := hr _ 0 h1
    rwa [← Nat.add_assoc i] at this
theorem iRuns (A : Option Addr) (n c : Nat) (ws : List Int) (w : World) (hz : Sees (Value.int .u64) w [] A ws) (hl : ws.length = n) (hn : n ≤ 1000000) :
    Calls Try.prog 85 [.slice A n c].toArray w fun e w' => ∃ (A' : Option Addr) (c' : Nat) (rs : List RunS), e = .returned (.slice A' rs.length c') ∧ rs.map RunS.P = Im.rn ws ∧ Heap w [] [ownN 2 (.slice A' rs.length c') rs.length ((rs.flatMap RunS.C).map C1.v) 131, grp (rs.map RunS.E)] w' := by
  have H0 := Heap.nil w
  have H1 := H0.grp_nil
  have H := own02 H1 131
  clear H0 H1
  refine k_in (N := 54) Try.func85 rfl rfl rfl ?_
  refine k_seq ?_
  refine k_rg ?_
  refine s_run rfl rfl (r_as (v := .slice _ _ _) rfl) ?_
  refine k_nil ?_
  refine c_norm ?_
  refine k_seq ?_
  refine k_rg ?_
  refine s_run rfl rfl (r_as (v := .slice _ _ _) rfl) ?_
  refine k_nil ?_
  refine c_norm ?_
  refine k_seq ?_
  refine k_seq ?_
  refine k_rg ?_
  refine s_run rfl rfl (r_as (v := .int _ _) rfl) ?_
  refine k_nil ?_
  refine c_norm ?_
  refine k_b ?_
  refine k_loop (fun z f W => ∃ (i : Nat) (A' : Option Addr) (c' : Nat) (rs : List RunS), i ≤ n ∧ z = n - i ∧ rs.length ≤ i ∧ rs.map RunS.P ++ Im.rn (ws.drop i) = Im.rn ws ∧ f 0 = .slice A n c ∧ f 3 = .slice A' rs.length c' ∧ f 4 = .int .i64 i ∧ Heap w [] [ownN 2 (.slice A' rs.length c') rs.length ((rs.flatMap RunS.C).map C1.v) 131, grp (rs.map RunS.E)] W) n ⟨0, none, 0, [], by omega, rfl, Nat.le_refl _, by simp, rfl, rfl, rfl, H⟩ ?_
  clear H
  rintro z f W ⟨i, A', c', rs, hi, rfl, hrl, hrn, f0, f3, f4, H⟩
  obtain ⟨f, rfl⟩ := live3 f0 f3 f4
  clear f0 f3 f4
  by_cases hlt : i < n
  · obtain ⟨b, o, rfl, _, hr⟩ := hz (by omega)
    have H2 := own0 H 22
    clear H
    have H := H2
    clear H2
    obtain ⟨Z, R, _, hb1, hb2, hb3, hs, hLl, hg1, hg2, hg3, hg4⟩ := run_at ws i n hl hlt w b o hr
    refine k_seq ?_
    refine k_seq ?_
    refine k_rg ?_
    refine s_run rfl rfl (r_mv (v := .int _ _) rfl) ?_
    refine s_run rfl rfl (r_mv (v := .slice _ _ _) rfl) ?_
    refine s_run rfl rfl (r_len rfl Try.underlying25) ?_
    refine s_run rfl rfl (r_lssT rfl rfl (by omega)) ?_
    refine k_nil ?_
    refine c_norm ?_
    refine k_t rfl ?_
    refine k_skip ?_
    refine c_norm ?_
    refine k_b ?_
    refine k_seq ?_
    refine k_rg ?_
    refine s_al H rfl inf131 ?_
    intro p5 _ H'; clear H; have H := H'; clear H'
    refine k_nil ?_
    refine c_norm ?_
    refine k_seq ?_
    refine k_cut (fun f W => f 0 = .slice (some ⟨b, o, none⟩) n c ∧ f 3 = .slice A' rs.length c' ∧ f 4 = .int .i64 ((i + Z : Nat) : Int) ∧ f 5 = ptr p5 ∧ Heap w [] [blk p5 [.int .i64 Z, .slice none 0 0] 131, ownN 1 (.slice none 0 0) 0 (([] : List Int).map (Value.int .u64)) 22, ownN 2 (.slice A' rs.length c') rs.length ((rs.flatMap RunS.C).map C1.v) 131, grp (rs.map RunS.E)] W) ?_ ?_
    · refine k_b ?_
      refine k_loop (fun z f W => ∃ k : Nat, k ≤ Z ∧ z = n - k ∧ f 0 = .slice (some ⟨b, o, none⟩) n c ∧ f 3 = .slice A' rs.length c' ∧ f 4 = .int .i64 ((i + k : Nat) : Int) ∧ f 5 = ptr p5 ∧ Heap w [] [blk p5 [.int .i64 k, .slice none 0 0] 131, ownN 1 (.slice none 0 0) 0 (([] : List Int).map (Value.int .u64)) 22, ownN 2 (.slice A' rs.length c') rs.length ((rs.flatMap RunS.C).map C1.v) 131, grp (rs.map RunS.E)] W) n ⟨0, by omega, rfl, rfl, rfl, rfl, rfl, H⟩ ?_
      clear H
      rintro z f W ⟨k, hk, rfl, f0, f3, f4, f5, H⟩
      obtain ⟨f, rfl⟩ := live4 f0 f3 f4 f5
      clear f0 f3 f4 f5
      by_cases hlt2 : k < Z
      · have hc := hg1 k hlt2
        refine k_seq ?_
        refine k_seq ?_
        refine k_rg ?_
        refine s_run rfl rfl (r_mv (v := .int _ _) rfl) ?_
        refine s_run rfl rfl (r_mv (v := .slice _ _ _) rfl) ?_
        refine s_run rfl rfl (r_len rfl Try.underlying25) ?_
        refine s_run rfl rfl (r_lssT rfl rfl (by omega)) ?_
        refine s_run rfl rfl (r_mv (v := .bool _) rfl) ?_
        refine s_run rfl (g_on 14 (by kernel_rfl) rfl) (r_mv (v := .slice _ _ _) rfl) ?_
        refine s_run rfl (g_on 14 (by kernel_rfl) rfl) (r_mv (v := .int _ _) rfl) ?_
        refine s_run rfl (g_on 14 (by kernel_rfl) rfl) (r_ix1o (i := (i + k)) rfl rfl (by omega) (by omega) Try.underlying25 sz22) ?_
        refine s_run rfl (g_on 14 (by kernel_rfl) rfl) (r_lr H (i := o + (i + k)) rfl hc (by simp) ag22) ?_
        refine s_run rfl (g_on 14 (by kernel_rfl) rfl) (r_eqlT rfl rfl (by omega)) ?_
        refine s_run rfl rfl (r_pkT (v := .bool _) rfl rfl) ?_
        refine k_nil ?_
        refine c_norm ?_
        refine k_t rfl ?_
        refine k_skip ?_
        refine c_norm ?_
        refine k_b ?_
        refine k_rg ?_
        refine s_run rfl rfl (r_fa0 rfl fo131_0) ?_
        refine s_run rfl rfl (r_lo H 0 rfl rfl rfl ag3) ?_
        refine s_run rfl rfl (r_add rfl rfl (wI (by omega))) ?_
        refine s_run rfl rfl (r_mv (v := .int _ _) rfl) ?_
        refine s_run rfl rfl (r_add rfl rfl (wI (by omega))) ?_
        refine s_run rfl rfl (r_fa0 rfl fo131_0) ?_
        refine s_st (u := .int _ _) H 0 rfl rfl rfl rfl rfl rfl sz3 ?_
        intro _ H'; simp only [List.set_cons_zero, List.set_cons_succ, List.take_succ_cons, List.take_zero, List.drop_succ_cons, List.drop_zero, List.cons_append, List.nil_append, List.append_nil, List.length_cons, List.length_nil, Nat.reduceAdd] at H'; clear H; have H := H'; clear H'
        refine s_run rfl rfl (r_as (v := .int _ _) rfl) ?_
        refine k_nil ?_
        refine b_norm ?_
        refine c_round ?_
        refine ⟨_, _, ?_, rfl, k + 1, by omega, rfl, rfl, rfl, ?_, rfl, H⟩
        · omega
        · exact congrArg (Value.int .i64) (by omega)
      · obtain rfl : k = Z := by omega
        by_cases hend : i + k < n
        · obtain ⟨z, hc, hz0⟩ := hg2 hend
          refine k_seq ?_
          refine k_seq ?_
          refine k_rg ?_
          refine s_run rfl rfl (r_mv (v := .int _ _) rfl) ?_
          refine s_run rfl rfl (r_mv (v := .slice _ _ _) rfl) ?_
          refine s_run rfl rfl (r_len rfl Try.underlying25) ?_
          refine s_run rfl rfl (r_lssT rfl rfl (by omega)) ?_
          refine s_run rfl rfl (r_mv (v := .bool _) rfl) ?_
          refine s_run rfl (g_on 14 (by kernel_rfl) rfl) (r_mv (v := .slice _ _ _) rfl) ?_
          refine s_run rfl (g_on 14 (by kernel_rfl) rfl) (r_mv (v := .int _ _) rfl) ?_
          refine s_run rfl (g_on 14 (by kernel_rfl) rfl) (r_ix1o (i := (i + k)) rfl rfl (by omega) (by omega) Try.underlying25 sz22) ?_
          refine s_run rfl (g_on 14 (by kernel_rfl) rfl) (r_lr H (i := o + (i + k)) rfl hc (by simp) ag22) ?_
          refine s_run rfl (g_on 14 (by kernel_rfl) rfl) (r_eqlF rfl rfl (by omega)) ?_
          refine s_run rfl rfl (r_pkT (v := .bool _) rfl rfl) ?_
          refine k_nil ?_
          refine c_norm ?_
          refine k_f rfl ?_
          refine k_exit ?_
          refine c_exit ?_
          refine c_exit ?_
          refine b_hit ?_
          refine k_met ?_
          exact ⟨rfl, rfl, rfl, rfl, H⟩
        · refine k_seq ?_
          refine k_seq ?_
          refine k_rg ?_
          refine s_run rfl rfl (r_mv (v := .int _ _) rfl) ?_
          refine s_run rfl rfl (r_mv (v := .slice _ _ _) rfl) ?_
          refine s_run rfl rfl (r_len rfl Try.underlying25) ?_
          refine s_run rfl rfl (r_lssF rfl rfl (by omega)) ?_
          refine s_run rfl rfl (r_mv (v := .bool _) rfl) ?_
          refine s_off rfl (g_off 14 (by kernel_rfl) rfl rfl) ?_
          refine s_off rfl (g_off 14 (by kernel_rfl) rfl rfl) ?_
          refine s_off rfl (g_off 14 (by kernel_rfl) rfl rfl) ?_
          refine s_off rfl (g_off 14 (by kernel_rfl) rfl rfl) ?_
          refine s_off rfl (g_off 14 (by kernel_rfl) rfl rfl) ?_
          refine s_run rfl rfl (r_pkF (v := .bool _) rfl rfl) ?_
          refine k_nil ?_
          refine c_norm ?_
          refine k_f rfl ?_
          refine k_exit ?_
          refine c_exit ?_
          refine c_exit ?_
          refine b_hit ?_
          refine k_met ?_
          exact ⟨rfl, rfl, rfl, rfl, H⟩
    · clear H
      rintro f W ⟨f0, f3, f4, f5, H⟩
      obtain ⟨f, rfl⟩ := live4 f0 f3 f4 f5
      clear f0 f3 f4 f5
      refine c_norm ?_
      refine k_seq ?_
      refine k_cut (fun f W => ∃ A2 c2, f 0 = .slice (some ⟨b, o, none⟩) n c ∧ f 3 = .slice A' rs.length c' ∧ f 4 = .int .i64 ((i + Z + Im.nr R : Nat) : Int) ∧ f 5 = ptr p5 ∧ Heap w [] [blk p5 [.int .i64 Z, .slice A2 (Im.nr R) c2] 131, ownN 1 (.slice A2 (Im.nr R) c2) (Im.nr R) ((R.take (Im.nr R)).map (Value.int .u64)) 22, ownN 2 (.slice A' rs.length c') rs.length ((rs.flatMap RunS.C).map C1.v) 131, grp (rs.map RunS.E)] W) ?_ ?_
      · refine k_b ?_
        refine k_loop (fun z f W => ∃ (k : Nat) (A2 : Option Addr) (c2 : Nat), k ≤ Im.nr R ∧ z = n - k ∧ f 0 = .slice (some ⟨b, o, none⟩) n c ∧ f 3 = .slice A' rs.length c' ∧ f 4 = .int .i64 ((i + Z + k : Nat) : Int) ∧ f 5 = ptr p5 ∧ Heap w [] [blk p5 [.int .i64 Z, .slice A2 k c2] 131, ownN 1 (.slice A2 k c2) k ((R.take k).map (Value.int .u64)) 22, ownN 2 (.slice A' rs.length c') rs.length ((rs.flatMap RunS.C).map C1.v) 131, grp (rs.map RunS.E)] W) n ⟨0, none, 0, by omega, rfl, rfl, rfl, rfl, rfl, H⟩ ?_
        clear H
        rintro z f W ⟨k, A2, c2, hk, rfl, f0, f3, f4, f5, H⟩
        obtain ⟨f, rfl⟩ := live4 f0 f3 f4 f5
        clear f0 f3 f4 f5
        by_cases hlt2 : k < Im.nr R
        · obtain ⟨z, hzR, hc, hz0⟩ := hg3 k hlt2
          refine k_seq ?_
          refine k_seq ?_
          refine k_rg ?_
          refine s_run rfl rfl (r_mv (v := .int _ _) rfl) ?_
          refine s_run rfl rfl (r_mv (v := .slice _ _ _) rfl) ?_
          refine s_run rfl rfl (r_len rfl Try.underlying25) ?_
          refine s_run rfl rfl (r_lssT rfl rfl (by omega)) ?_
          refine s_run rfl rfl (r_mv (v := .bool _) rfl) ?_
          refine s_run rfl (g_on 31 (by kernel_rfl) rfl) (r_mv (v := .slice _ _ _) rfl) ?_
          refine s_run rfl (g_on 31 (by kernel_rfl) rfl) (r_mv (v := .int _ _) rfl) ?_
          refine s_run rfl (g_on 31 (by kernel_rfl) rfl) (r_ix1o rfl rfl rfl (by omega) Try.underlying25 sz22) ?_
          refine s_run rfl (g_on 31 (by kernel_rfl) rfl) (r_lr H (i := o + (i + Z + k)) rfl hc (by simp) ag22) ?_
          refine s_run rfl (g_on 31 (by kernel_rfl) rfl) (r_neqT rfl rfl (by omega)) ?_
          refine s_run rfl rfl (r_pkT (v := .bool _) rfl rfl) ?_
          refine k_nil ?_
          refine c_norm ?_
          refine k_t rfl ?_
          refine k_skip ?_
          refine c_norm ?_
          refine k_b ?_
          refine k_cut (fun f W => ∃ A3 c3, f 0 = .slice (some ⟨b, o, none⟩) n c ∧ f 3 = .slice A' rs.length c' ∧ f 4 = .int .i64 ((i + Z + k : Nat) + 1 : Int) ∧ f 5 = ptr p5 ∧ Heap w [] [blk p5 [.int .i64 Z, .slice A3 (k + 1) c3] 131, ownN 1 (.slice A3 (k + 1) c3) (k + 1) ((R.take k ++ [z]).map (Value.int .u64)) 22, ownN 2 (.slice A' rs.length c') rs.length ((rs.flatMap RunS.C).map C1.v) 131, grp (rs.map RunS.E)] W) ?_ ?_
          · refine k_trF mixed ?_; have H' := H.drew; clear H; have H := H'; clear H'
            refine t_take 0 rfl (by kernel_rfl) (by kernel_rfl) (by kernel_rfl) rfl (fun _ _ _ _ h => nomatch h.1) rfl (fun _ hS => r_fa0 rfl fo131_1) trivial ?_
            refine t_take 2 rfl (by kernel_rfl) (by kernel_rfl) (by kernel_rfl) rfl (fun _ _ _ _ h => nomatch h.1) rfl (fun _ hS => r_mv (v := .slice _ _ _) rfl) trivial ?_
            refine t_take 3 rfl (by kernel_rfl) (by kernel_rfl) (by kernel_rfl) rfl (fun _ _ _ _ h => nomatch h.1) rfl (fun _ hS => r_mv (v := .int _ _) rfl) trivial ?_
            refine t_take 4 rfl (by kernel_rfl) (by kernel_rfl) (by kernel_rfl) rfl (fun _ _ _ _ h => nomatch h.1) rfl (fun _ hS => r_ix1o rfl rfl rfl (by omega) Try.underlying25 sz22) trivial ?_
            refine t_take 8 rfl (by kernel_rfl) (by kernel_rfl) (by kernel_rfl) rfl (fun _ _ _ _ h => nomatch h.1) rfl (fun _ hS => r_mv (v := .int _ _) rfl) trivial ?_
            refine t_take 9 rfl (by kernel_rfl) (by kernel_rfl) (by kernel_rfl) rfl (fun _ _ _ _ h => nomatch h.1) rfl (fun _ hS => r_add rfl rfl (wI (by omega))) trivial ?_
            refine t_up2 1 5 (by kernel_rfl) ?_ ?_
            · refine up_mk rfl ?_
              refine s_run rfl rfl (r_lo H 0 rfl rfl rfl ag25) ?_
              refine k_nil ?_
              refine t_on trivial ?_
              refine t_up1 5 (by kernel_rfl) ?_
              refine up_mk rfl ?_
              refine s_run rfl rfl (r_lr H (i := o + (i + Z + k)) rfl hc (by simp) ag22) ?_
              refine k_nil ?_
              refine t_on trivial ?_
              refine t_up1 6 (by kernel_rfl) ?_
              refine up_mk rfl ?_
              refine s_bsO (enc := (Value.int .u64)) (zs := [z]) H rfl rfl rfl (by omega) (by kernel_rfl) Try.underlying25 inf22 ?_
              intro q6 _ H'; clear H; have H := H'; clear H'
              refine k_nil ?_
              refine t_on trivial ?_
              refine t_up1 7 (by kernel_rfl) ?_
              refine up_mk rfl ?_
              refine s_apW (enc := (Value.int .u64)) H 2 rfl rfl rfl rfl (H.own_sees 0 rfl) (rfl) (fun _ => rfl) (by omega) Try.underlying25 inf22 rfl ?_
              intro _ _ _ H'; simp only [List.set_cons_zero, List.set_cons_succ, List.take_succ_cons, List.take_zero, List.drop_succ_cons, List.drop_zero, List.cons_append, List.nil_append, List.append_nil, List.length_cons, List.length_nil, Nat.reduceAdd] at H'; clear H; have H := H'; clear H'
              refine k_nil ?_
              refine t_on trivial ?_
              refine t_take 10 rfl (by kernel_rfl) (by kernel_rfl) (by kernel_rfl) rfl (fun _ _ _ _ h => nomatch h.1) rfl (fun _ hS => r_fa0 rfl fo131_1) trivial ?_
              refine t_up1 11 (by kernel_rfl) ?_
              refine up_mk rfl ?_
              refine s_st (u := .slice _ _ _) H 1 rfl rfl rfl rfl rfl rfl sz25 ?_
              intro _ H'; simp only [List.set_cons_zero, List.set_cons_succ, List.take_succ_cons, List.take_zero, List.drop_succ_cons, List.drop_zero, List.cons_append, List.nil_append, List.append_nil, List.length_cons, List.length_nil, Nat.reduceAdd] at H'; clear H; have H := H'; clear H'
              refine k_nil ?_
              refine t_on trivial ?_
              refine t_take 12 rfl (by kernel_rfl) (by kernel_rfl) (by kernel_rfl) rfl (fun _ _ _ _ h => nomatch h.1) rfl (fun _ hS => r_as (v := .int _ _) rfl) trivial ?_
              refine t_done (by kernel_rfl) ?_
              refine k_met ?_
              exact ⟨_, _, rfl, rfl, rfl, rfl, H.drop⟩
            · refine up_mk rfl ?_
              refine s_run rfl rfl (r_lr H (i := o + (i + Z + k)) rfl hc (by simp) ag22) ?_
              refine k_nil ?_
              refine t_on trivial ?_
              refine t_up2 1 6 (by kernel_rfl) ?_ ?_
              · refine up_mk rfl ?_
                refine s_run rfl rfl (r_lo H 0 rfl rfl rfl ag25) ?_
                refine k_nil ?_
                refine t_on trivial ?_
                refine t_up1 6 (by kernel_rfl) ?_
                refine up_mk rfl ?_
                refine s_bsO (enc := (Value.int .u64)) (zs := [z]) H rfl rfl rfl (by omega) (by kernel_rfl) Try.underlying25 inf22 ?_
                intro q6 _ H'; clear H; have H := H'; clear H'
                refine k_nil ?_
                refine t_on trivial ?_
                refine t_up1 7 (by kernel_rfl) ?_
                refine up_mk rfl ?_
                refine s_apW (enc := (Value.int .u64)) H 2 rfl rfl rfl rfl (H.own_sees 0 rfl) (rfl) (fun _ => rfl) (by omega) Try.underlying25 inf22 rfl ?_
                intro _ _ _ H'; simp only [List.set_cons_zero, List.set_cons_succ, List.take_succ_cons, List.take_zero, List.drop_succ_cons, List.drop_zero, List.cons_append, List.nil_append, List.append_nil, List.length_cons, List.length_nil, Nat.reduceAdd] at H'; clear H; have H := H'; clear H'
                refine k_nil ?_
                refine t_on trivial ?_
                refine t_take 10 rfl (by kernel_rfl) (by kernel_rfl) (by kernel_rfl) rfl (fun _ _ _ _ h => nomatch h.1) rfl (fun _ hS => r_fa0 rfl fo131_1) trivial ?_
                refine t_up1 11 (by kernel_rfl) ?_
                refine up_mk rfl ?_
                refine s_st (u := .slice _ _ _) H 1 rfl rfl rfl rfl rfl rfl sz25 ?_
                intro _ H'; simp only [List.set_cons_zero, List.set_cons_succ, List.take_succ_cons, List.take_zero, List.drop_succ_cons, List.drop_zero, List.cons_append, List.nil_append, List.append_nil, List.length_cons, List.length_nil, Nat.reduceAdd] at H'; clear H; have H := H'; clear H'
                refine k_nil ?_
                refine t_on trivial ?_
                refine t_take 12 rfl (by kernel_rfl) (by kernel_rfl) (by kernel_rfl) rfl (fun _ _ _ _ h => nomatch h.1) rfl (fun _ hS => r_as (v := .int _ _) rfl) trivial ?_
                refine t_done (by kernel_rfl) ?_
                refine k_met ?_
                exact ⟨_, _, rfl, rfl, rfl, rfl, H.drop⟩
              · refine up_mk rfl ?_
                refine s_bsO (enc := (Value.int .u64)) (zs := [z]) H rfl rfl rfl (by omega) (by kernel_rfl) Try.underlying25 inf22 ?_
                intro q6 _ H'; clear H; have H := H'; clear H'
                refine k_nil ?_
                refine t_on trivial ?_
                refine t_up1 1 (by kernel_rfl) ?_
                refine up_mk rfl ?_
                refine s_run rfl rfl (r_lo H 1 rfl rfl rfl ag25) ?_
                refine k_nil ?_
                refine t_on trivial ?_
                refine t_up1 7 (by kernel_rfl) ?_
                refine up_mk rfl ?_
                refine s_apW (enc := (Value.int .u64)) H 2 rfl rfl rfl rfl (H.own_sees 0 rfl) (rfl) (fun _ => rfl) (by omega) Try.underlying25 inf22 rfl ?_
                intro _ _ _ H'; simp only [List.set_cons_zero, List.set_cons_succ, List.take_succ_cons, List.take_zero, List.drop_succ_cons, List.drop_zero, List.cons_append, List.nil_append, List.append_nil, List.length_cons, List.length_nil, Nat.reduceAdd] at H'; clear H; have H := H'; clear H'
                refine k_nil ?_
                refine t_on trivial ?_
                refine t_take 10 rfl (by kernel_rfl) (by kernel_rfl) (by kernel_rfl) rfl (fun _ _ _ _ h => nomatch h.1) rfl (fun _ hS => r_fa0 rfl fo131_1) trivial ?_
                refine t_up1 11 (by kernel_rfl) ?_
                refine up_mk rfl ?_
                refine s_st (u := .slice _ _ _) H 1 rfl rfl rfl rfl rfl rfl sz25 ?_
                intro _ H'; simp only [List.set_cons_zero, List.set_cons_succ, List.take_succ_cons, List.take_zero, List.drop_succ_cons, List.drop_zero, List.cons_append, List.nil_append, List.append_nil, List.length_cons, List.length_nil, Nat.reduceAdd] at H'; clear H; have H := H'; clear H'
                refine k_nil ?_
                refine t_on trivial ?_
                refine t_take 12 rfl (by kernel_rfl) (by kernel_rfl) (by kernel_rfl) rfl (fun _ _ _ _ h => nomatch h.1) rfl (fun _ hS => r_as (v := .int _ _) rfl) trivial ?_
                refine t_done (by kernel_rfl) ?_
                refine k_met ?_
                exact ⟨_, _, rfl, rfl, rfl, rfl, H.drop⟩
          clear H
          rintro f W ⟨A3, c3, f0, f3, f4, f5, H⟩
          obtain ⟨f, rfl⟩ := live4 f0 f3 f4 f5
          clear f0 f3 f4 f5
          refine b_norm ?_
          refine c_round ?_
          rw [take_snoc hzR] at H
          refine ⟨_, _, ?_, rfl, k + 1, _, _, by omega, rfl, rfl, rfl, ?_, rfl, H⟩
          · omega
          · exact congrArg (Value.int .i64) (by omega)
        · obtain rfl : k = Im.nr R := by omega
          by_cases hend : i + Z + Im.nr R < n
          · have hc := hg4 hend
            refine k_seq ?_
            refine k_seq ?_
            refine k_rg ?_
            refine s_run rfl rfl (r_mv (v := .int _ _) rfl) ?_
            refine s_run rfl rfl (r_mv (v := .slice _ _ _) rfl) ?_
            refine s_run rfl rfl (r_len rfl Try.underlying25) ?_
            refine s_run rfl rfl (r_lssT rfl rfl (by omega)) ?_
            refine s_run rfl rfl (r_mv (v := .bool _) rfl) ?_
            refine s_run rfl (g_on 31 (by kernel_rfl) rfl) (r_mv (v := .slice _ _ _) rfl) ?_
            refine s_run rfl (g_on 31 (by kernel_rfl) rfl) (r_mv (v := .int _ _) rfl) ?_
            refine s_run rfl (g_on 31 (by kernel_rfl) rfl) (r_ix1o (i := (i + Z + Im.nr R)) rfl rfl (by omega) (by omega) Try.underlying25 sz22) ?_
            refine s_run rfl (g_on 31 (by kernel_rfl) rfl) (r_lr H (i := o + (i + Z + Im.nr R)) rfl hc (by simp) ag22) ?_
            refine s_run rfl (g_on 31 (by kernel_rfl) rfl) (r_neqF rfl rfl (by omega)) ?_
            refine s_run rfl rfl (r_pkT (v := .bool _) rfl rfl) ?_
            refine k_nil ?_
            refine c_norm ?_
            refine k_f rfl ?_
            refine k_exit ?_
            refine c_exit ?_
            refine c_exit ?_
            refine b_hit ?_
            refine k_met ?_
            exact ⟨A2, c2, rfl, rfl, rfl, rfl, H⟩
          · refine k_seq ?_
            refine k_seq ?_
            refine k_rg ?_
            refine s_run rfl rfl (r_mv (v := .int _ _) rfl) ?_
            refine s_run rfl rfl (r_mv (v := .slice _ _ _) rfl) ?_
            refine s_run rfl rfl (r_len rfl Try.underlying25) ?_
            refine s_run rfl rfl (r_lssF rfl rfl (by omega)) ?_
            refine s_run rfl rfl (r_mv (v := .bool _) rfl) ?_
            refine s_off rfl (g_off 31 (by kernel_rfl) rfl rfl) ?_
            refine s_off rfl (g_off 31 (by kernel_rfl) rfl rfl) ?_
            refine s_off rfl (g_off 31 (by kernel_rfl) rfl rfl) ?_
            refine s_off rfl (g_off 31 (by kernel_rfl) rfl rfl) ?_
            refine s_off rfl (g_off 31 (by kernel_rfl) rfl rfl) ?_
            refine s_run rfl rfl (r_pkF (v := .bool _) rfl rfl) ?_
            refine k_nil ?_
            refine c_norm ?_
            refine k_f rfl ?_
            refine k_exit ?_
            refine c_exit ?_
            refine c_exit ?_
            refine b_hit ?_
            refine k_met ?_
            exact ⟨A2, c2, rfl, rfl, rfl, rfl, H⟩
      · clear H
        rintro f W ⟨A2, c2, f0, f3, f4, f5, H⟩
        obtain ⟨f, rfl⟩ := live4 f0 f3 f4 f5
        clear f0 f3 f4 f5
        refine c_norm ?_
        refine k_rg ?_
        refine s_run rfl rfl (r_mv (v := .slice _ _ _) rfl) ?_
        refine s_run rfl rfl (r_la H 0 rfl rfl rfl ag131 sz131) ?_
        refine s_appN (enc := C1.v) (zs := [C1.i .i64 Z, C1.s A2 (Im.nr R) c2]) H 2 rfl rfl rfl rfl C1.one (by omega) (by kernel_rfl) rfl rfl rfl (by omega) Try.underlying128 inf131 rfl ?_
        intro _ bo co _ H'; simp only [List.set_cons_zero, List.set_cons_succ, List.take_succ_cons, List.take_zero, List.drop_succ_cons, List.drop_zero, List.cons_append, List.nil_append, List.append_nil, List.length_cons, List.length_nil, Nat.reduceAdd] at H'; clear H; have H := H'; clear H'
        refine s_run rfl rfl (r_as (v := .slice _ _ _) rfl) ?_
        refine k_nil ?_
        refine b_norm ?_
        refine c_round ?_
        have h2 : Heap w [] [grp _, _, _] _ := H.drop.pick 2 rfl
        have h3 : Heap w [] [_, grp _, _] _ := h2.pick 1 rfl
        have h4 : Heap w [] [_, grp _] _ := h3.grp_snoc.pick 1 rfl
        refine ⟨_, _, ?_, rfl, i + Z + Im.nr R, some ⟨bo, 0, none⟩, co, rs ++ [⟨Z, R.take (Im.nr R), A2, c2⟩], by omega, rfl, ?_, ?_, rfl, ?_, ?_, ?_⟩
        · omega
        · simp; omega
        · rw [List.map_append, List.append_assoc, ← hrn, hs]; rfl
        · rw [List.length_append]; rfl
        · exact congrArg (Value.int .i64) (by omega)
        · have e1 : (rs ++ [(⟨Z, R.take (Im.nr R), A2, c2⟩ : RunS)]).flatMap RunS.C = rs.flatMap RunS.C ++ [C1.i .i64 Z, C1.s A2 (Im.nr R) c2] := by simp [RunS.C, hLl]
          have e2 : (rs ++ [(⟨Z, R.take (Im.nr R), A2, c2⟩ : RunS)]).map RunS.E = rs.map RunS.E ++ [ownN 1 (.slice A2 (Im.nr R) c2) (Im.nr R) ((R.take (Im.nr R)).map (Value.int .u64)) 22] := by simp only [List.map_append, List.map_cons, List.map_nil, RunS.E, hLl]
          rw [e1, e2, List.length_append]
          exact h4
  · obtain rfl : i = n := by omega
    rw [List.drop_eq_nil_of_le (by omega), Im.rn_nil, List.append_nil] at hrn
    refine k_seq ?_
    refine k_seq ?_
    refine k_rg ?_
    refine s_run rfl rfl (r_mv (v := .int _ _) rfl) ?_
    refine s_run rfl rfl (r_mv (v := .slice _ _ _) rfl) ?_
    refine s_run rfl rfl (r_len rfl Try.underlying25) ?_
    refine s_run rfl rfl (r_lssF rfl rfl (by omega)) ?_
    refine k_nil ?_
    refine c_norm ?_
    refine k_f rfl ?_
    refine k_exit ?_
    refine c_exit ?_
    refine c_exit ?_
    refine b_hit ?_
    refine c_norm ?_
    refine k_seq ?_
    refine k_rg ?_
    refine s_run rfl rfl (r_mv (v := .slice _ _ _) rfl) ?_
    refine s_run rfl rfl (r_as (v := .slice _ _ _) rfl) ?_
    refine k_nil ?_
    refine c_norm ?_
    refine k_ret ?_
    refine fin1r (v := .slice _ _ _) rfl rfl ?_
    exact ⟨A', c', rs, rfl, hrn, H⟩
end Go.Proofs.Ytmekhdclnhhhbaa
end

section
namespace Go.Proofs.Ytmekhdclnhhhbaa
open Go.RowKit
set_option linter.unusedSimpArgs false
set_option linter.unusedVariables false
theorem flat_at : ∀ (rs : List RunS) (j : Nat) (r : RunS), rs[j]? = some r → ((rs.flatMap RunS.C).drop (j * 2)).take 2 = r.C
  | [], j, r, h => by simp at h
  | x :: rs, 0, r, h => by
    simp at h; subst h; rfl
  | x :: rs, j + 1, r, h => by
    have ih := flat_at rs j r (by simpa using h)
    rw [show (j + 1) * 2 = 2 + j * 2 by omega, ← List.drop_drop]
    exact ih
theorem flat_reads {w0 W : World} {F : List Nat} {L : List Ent} (H : Heap w0 F L W) (i : Nat) {b : Nat} {rs : List RunS} {T : TypeId} (hi : L[i]? = some (vec C1.v b (rs.flatMap RunS.C) T)) {j : Nat} {r : RunS} (hj : rs[j]? = some r) : Reads C1.v W b (j * 2) r.C := by
  have := H.reads i hi (j * 2) 2
  rwa [flat_at rs j r hj] at this
theorem encs_app (a b : List (Nat × List Int)) : Im.encs (a ++ b) = Im.encs a ++ Im.encs b := by simp [Im.encs]
theorem runs_E {rs : List RunS} {r : RunS} {j : Nat} (hj : rs[j]? = some r) : ownN 1 (.slice r.A r.l.length r.c) r.l.length (r.l.map (Value.int .u64)) 22 ∈ rs.map RunS.E :=
  List.mem_map.2 ⟨r, List.mem_of_getElem? hj, rfl⟩
theorem rn_bd : ∀ (k : Nat) (l : List Int), l.length ≤ k → ∀ r ∈ Im.rn l, r.1 + r.2.length ≤ l.length
  | 0, l, h, r, hr => by
    obtain rfl : l = [] := List.eq_nil_of_length_eq_zero (by omega)
    rw [Im.rn_nil] at hr; cases hr
  | k + 1, l, h, r, hr => by
    by_cases hl : l = []
    · subst hl; rw [Im.rn_nil] at hr; cases hr
    · have h1 := Im.step_pos l hl
      have h2 := Im.step_le l
      have h3 : Im.step l = Im.zr l + Im.nr (l.drop (Im.zr l)) := rfl
      rw [Im.rn_cons l hl] at hr
      rcases List.mem_cons.1 hr with rfl | hr
      · simp only [List.length_take, List.length_drop]; omega
      · have := rn_bd k (l.drop (Im.step l)) (by rw [List.length_drop]; omega) r hr
        rw [List.length_drop] at this; omega
theorem encs_ge : ∀ rs : List (Nat × List Int), rs.length ≤ (Im.encs rs).length
  | [] => Nat.le_refl _
  | r :: rs => by
    have := encs_ge rs
    simp only [Im.encs, List.flatMap_cons, Im.enc1, List.length_cons, List.length_append] at this ⊢
    omega
theorem iSave (g : Geo) (d : Nv.D) (m : Nat) (w : World) (hE : Ents (devL g d) w) (ho : Nv.Ok d m) (hU : Im.U d.last) (hm : m ≤ 20000) :
    Calls Try.prog 48 [ptr g.p].toArray w (Gives .u8 5 (Im.save d.last) w) := by
  have HR := Heap.start hE
  have H := Heap.nil w
  have hlen := ho.hl
  generalize hws : d.last = ws at *
  have hbl := Im.body_len ws.length ws (Nat.le_refl _)
  have hhU := Im.head_bd (l := ws) (by omega) hU
  have hoU := Im.out_bd (l := ws) (by omega) hU
  have hA := nAll g d m w hE ho (by omega)
  rw [hws] at hA
  refine k_in (N := 43) Try.func48 rfl rfl rfl ?_
  refine k_seq ?_
  refine k_rg ?_
  refine s_run rfl rfl (r_as (v := .slice _ _ _) rfl) ?_
  refine k_nil ?_
  refine c_norm ?_
  refine k_seq ?_
  refine k_rg ?_
  refine s_run rfl rfl (r_mv (v := .pointer _) rfl) ?_
  refine s_call rfl (hA) (ca47 rfl) ?_
  rintro e W1 ⟨ba, ca, rfl, hca, H'⟩
  refine ⟨_, rfl, ?_⟩
  have H := H.more (A := [_]) H'; clear H'; simp only [List.cons_append, List.nil_append] at H
  refine s_run rfl rfl (r_as (v := .slice _ _ _) rfl) ?_
  refine k_nil ?_
  refine c_norm ?_
  refine k_seq ?_
  refine k_rg ?_
  refine s_run rfl rfl (r_mv (v := .slice _ _ _) rfl) ?_
  refine s_run rfl rfl (r_len rfl Try.underlying25) ?_
  refine s_run rfl rfl (r_cv rfl (by kernel_rfl) Try.underlying22 (wU (by omega))) ?_
  refine s_bsO (enc := (Value.int .u64)) (zs := [13905993476890996, ((8 * m : Nat) : Int)]) H rfl rfl rfl (by omega) (by kernel_rfl) Try.underlying25 inf22 ?_
  intro po _ H'; clear H; have H := H'; clear H'
  refine s_run rfl rfl (r_as (v := .slice _ _ _) rfl) ?_
  refine k_nil ?_
  refine c_norm ?_
  refine k_seq ?_
  refine k_seq ?_
  refine k_rg ?_
  refine s_run rfl rfl (r_mv (v := .slice _ _ _) rfl) ?_
  refine s_call rfl (iRuns _ _ _ ws _ ((H.sees (m := 1) 1 rfl (F := []) (by simp) (fun _ => rfl) (by simp))) hlen (by omega)) (ca85 rfl) ?_
  rintro e W1 ⟨A', c', rs, rfl, hrs, H'⟩
  refine ⟨_, rfl, ?_⟩
  have H := H.more (A := [_, _]) H'; clear H'; simp only [List.cons_append, List.nil_append] at H
  refine s_run rfl rfl (r_len rfl Try.underlying128) ?_
  refine s_run rfl rfl (r_mv (v := .int _ _) rfl) ?_
  refine k_nil ?_
  refine c_norm ?_
  refine k_b ?_
  obtain ⟨br, hAr, hlr, H2⟩ := own_vecN (by omega) H
  clear H
  have H := H2
  clear H2
  have hbody : Im.body ws = Im.encs (rs.map RunS.P) := by rw [hrs]; rfl
  refine k_loop (fun z f W => ∃ (j : Nat) (A2 : Option Addr) (c2 q : Nat) (l : List Int), j ≤ rs.length ∧ z = rs.length - j ∧ l = Im.magic :: (ws.length : Int) :: Im.encs ((rs.take j).map RunS.P) ∧ q = l.length ∧ f 4 = .slice A2 q c2 ∧ f 14 = .slice A' rs.length c' ∧ f 15 = .int .i64 rs.length ∧ f 16 = .int .i64 j ∧ Heap w [] [vec C1.v br (rs.flatMap RunS.C) 131, grp (rs.map RunS.E), ownN 1 (.slice A2 q c2) q (l.map (Value.int .u64)) 22, vec (Value.int .u64) ba ws 22] W) rs.length ⟨0, some ⟨po, 0, none⟩, 2, 2, [Im.magic, (ws.length : Int)], by omega, rfl, rfl, rfl, rfl, rfl, rfl, rfl, by rw [hlen]; exact H⟩ ?_
  clear H
  rintro z f W ⟨j, A2, c2, q, l, hj, rfl, hl, hq, f4, f14, f15, f16, H⟩
  obtain ⟨f, rfl⟩ := live4 f4 f14 f15 f16
  clear f4 f14 f15 f16
  have hqb : q ≤ (Im.body ws).length + 2 := by
    rw [hq, hl, hbody]
    have e : rs.map RunS.P = (rs.take j).map RunS.P ++ (rs.drop j).map RunS.P := by rw [← List.map_append, List.take_append_drop]
    rw [e, encs_app]
    simp only [List.length_cons, List.length_append]
    omega
  have hrb : rs.length ≤ (Im.body ws).length := by
    rw [hbody]; simpa using encs_ge (rs.map RunS.P)
  by_cases hlt : j < rs.length
  · obtain ⟨r, hr⟩ : ∃ r, rs[j]? = some r := ⟨_, List.getElem?_eq_getElem hlt⟩
    obtain rfl := hAr (by omega)
    have hrl : r.l.length ≤ (Im.body ws).length := by
      rw [hbody]
      have e : rs.map RunS.P = (rs.take j).map RunS.P ++ RunS.P r :: (rs.drop (j + 1)).map RunS.P := by
        rw [← List.map_cons, ← List.map_append]
        congr 1
        have : rs.drop j = r :: rs.drop (j + 1) := by
          rw [List.drop_eq_getElem_cons hlt]
          congr 1
          rw [List.getElem?_eq_getElem hlt] at hr; simpa using hr
        rw [← this, List.take_append_drop]
      rw [e, encs_app]
      simp only [List.length_append, Im.encs, List.flatMap_cons, Im.enc1, RunS.P, List.length_cons]
      omega
    have hrz := rn_bd _ ws (Nat.le_refl _) (RunS.P r) (by rw [← hrs]; exact List.mem_map.2 ⟨r, List.mem_of_getElem? hr, rfl⟩)
    simp only [RunS.P] at hrz
    refine k_seq ?_
    refine k_rg ?_
    refine s_run rfl rfl (r_lssT rfl rfl (by omega)) ?_
    refine k_nil ?_
    refine c_norm ?_
    refine k_seq ?_
    refine k_t rfl ?_
    refine k_skip ?_
    refine c_norm ?_
    refine k_seq ?_
    refine k_b ?_
    refine k_seq ?_
    refine k_rg ?_
    refine s_run rfl rfl (r_ix0 rfl rfl rfl (by omega) Try.underlying128 sz131) ?_
    refine s_run rfl rfl (r_lA (enc := C1.v) (zs := r.C) (flat_reads H 0 rfl hr) rfl rfl ag131 sz131) ?_
    refine s_al H rfl inf131 ?_
    intro p6 _ H'; clear H; have H := H'; clear H'
    refine s_sw H 0 rfl rfl rfl rfl rfl rfl rfl sz131 ?_
    intro _ H'; simp only [List.set_cons_zero, List.set_cons_succ, List.take_succ_cons, List.take_zero, List.drop_succ_cons, List.drop_zero, List.cons_append, List.nil_append, List.append_nil, List.length_cons, List.length_nil, Nat.reduceAdd] at H'; clear H; have H := H'; clear H'
    refine k_nil ?_
    refine c_norm ?_
    refine k_seq ?_
    refine k_rg ?_
    refine s_run rfl rfl (r_mv (v := .slice _ _ _) rfl) ?_
    refine s_run rfl rfl (r_fa0 rfl fo131_0) ?_
    refine s_run rfl rfl (r_lo H 0 rfl rfl rfl ag3) ?_
    refine s_run rfl rfl (r_cv rfl (by kernel_rfl) Try.underlying22 (wU (by omega))) ?_
    refine s_run rfl rfl (r_fa0 rfl fo131_1) ?_
    refine s_run rfl rfl (r_lo H 0 rfl rfl rfl ag25) ?_
    refine s_run rfl rfl (r_len rfl Try.underlying25) ?_
    refine s_run rfl rfl (r_cv rfl (by kernel_rfl) Try.underlying22 (wU (by omega))) ?_
    refine s_appL (enc := (Value.int .u64)) (zs := [(r.z : Int), (r.l.length : Int)]) H 3 rfl rfl rfl rfl (by omega) (by kernel_rfl) (fun _ => rfl) (fun _ => rfl) (fun _ => rfl) rfl (by omega) Try.underlying25 inf22 rfl ?_
    intro _ An cn _ H'; simp only [List.set_cons_zero, List.set_cons_succ, List.take_succ_cons, List.take_zero, List.drop_succ_cons, List.drop_zero, List.cons_append, List.nil_append, List.append_nil, List.length_cons, List.length_nil, Nat.reduceAdd] at H'; clear H; have H := H'; clear H'
    refine s_run rfl rfl (r_as (v := .slice _ _ _) rfl) ?_
    refine k_nil ?_
    refine c_norm ?_
    refine k_rg ?_
    refine s_run rfl rfl (r_mv (v := .slice _ _ _) rfl) ?_
    refine s_run rfl rfl (r_fa0 rfl fo131_1) ?_
    refine s_run rfl rfl (r_lo H 0 rfl rfl rfl ag25) ?_
    refine s_apW (enc := (Value.int .u64)) H 3 rfl rfl rfl rfl (Ents.own_sees (H.grp_ents 2 rfl) (runs_E hr)) (rfl) (fun _ => rfl) (by omega) Try.underlying25 inf22 rfl ?_
    intro _ _ _ H'; simp only [List.set_cons_zero, List.set_cons_succ, List.take_succ_cons, List.take_zero, List.drop_succ_cons, List.drop_zero, List.cons_append, List.nil_append, List.append_nil, List.length_cons, List.length_nil, Nat.reduceAdd] at H'; clear H; have H := H'; clear H'
    refine s_run rfl rfl (r_as (v := .slice _ _ _) rfl) ?_
    refine k_nil ?_
    refine b_norm ?_
    refine c_norm ?_
    refine k_rg ?_
    refine s_run rfl rfl (r_add rfl rfl (wI (by omega))) ?_
    refine s_run rfl rfl (r_mv (v := .int _ _) rfl) ?_
    refine k_nil ?_
    refine c_round ?_
    refine ⟨_, _, ?_, rfl, j + 1, _, _, _, _, by omega, rfl, ?_, ?_, rfl, rfl, rfl, rfl, H.drop⟩
    · omega
    · rw [hl, List.take_add_one, hr]
      simp [encs_app, Im.encs, Im.enc1, RunS.P]
    · simp [hq]; omega
  · obtain rfl : j = rs.length := by omega
    have hl2 : l = Im.head ws := by
      rw [hl, List.take_length, ← hbody]; rfl
    have hsum := Im.sum_bd (Im.head ws)
    rw [hl2] at H hq
    have hql : (Im.head ws ++ [Im.sum (Im.head ws)]).length = q + 1 := by rw [hq]; simp
    refine k_seq ?_
    refine k_rg ?_
    refine s_run rfl rfl (r_lssF rfl rfl (by omega)) ?_
    refine k_nil ?_
    refine c_norm ?_
    refine k_seq ?_
    refine k_f rfl ?_
    refine k_exit ?_
    refine c_exit ?_
    refine c_exit ?_
    refine b_hit ?_
    refine c_norm ?_
    refine k_seq ?_
    refine k_rg ?_
    refine s_run rfl rfl (r_mv (v := .slice _ _ _) rfl) ?_
    refine s_run rfl rfl (r_mv (v := .slice _ _ _) rfl) ?_
    refine s_call rfl (cWords A2 q c2 (Im.head ws) _ (H.own_sees 2 rfl) hq.symm hhU (by omega)) (ca82 rfl) ?_
    rintro e W1 ⟨rfl, H'⟩
    refine ⟨_, rfl, ?_⟩
    have H := H.same H'; clear H'
    refine s_run rfl rfl (r_cv rfl (by kernel_rfl) Try.underlying22 (wU (by omega))) ?_
    refine s_app1 (enc := (Value.int .u64)) H 2 rfl rfl rfl rfl rfl rfl rfl (by omega) Try.underlying25 inf22 rfl ?_
    intro _ An cn _ H'; simp only [List.set_cons_zero, List.set_cons_succ, List.take_succ_cons, List.take_zero, List.drop_succ_cons, List.drop_zero, List.cons_append, List.nil_append, List.append_nil, List.length_cons, List.length_nil, Nat.reduceAdd] at H'; clear H; have H := H'; clear H'
    refine s_run rfl rfl (r_as (v := .slice _ _ _) rfl) ?_
    refine k_nil ?_
    refine c_norm ?_
    refine k_seq ?_
    refine k_rg ?_
    refine s_run rfl rfl (r_mv (v := .slice _ _ _) rfl) ?_
    refine s_call rfl (cBytes _ _ _ (Im.out ws) _ (H.own_sees 2 rfl) hql hoU (by omega)) (ca86 rfl) ?_
    rintro e W1 ⟨Ab, cb, rfl, H'⟩
    refine ⟨_, rfl, ?_⟩
    have H := H.more (A := [_]) H'; clear H'
    refine s_run rfl rfl (r_as (v := .slice _ _ _) rfl) ?_
    refine k_nil ?_
    refine c_norm ?_
    refine k_ret ?_
    refine fin1r (v := .slice _ _ _) rfl rfl ?_
    exact ⟨_, _, rfl, H.drops⟩
end Go.Proofs.Ytmekhdclnhhhbaa
end

section
namespace Go.Proofs.Ytmekhdclnhhhbaa
open Go.RowKit
set_option linter.unusedSimpArgs false
set_option linter.unusedVariables false
end Go.Proofs.Ytmekhdclnhhhbaa
end

section
namespace Go.Proofs.Ytmekhdclnhhhbaa
set_option linter.unusedSimpArgs false
set_option linter.unusedVariables false
open Go.RowKit
theorem lv7 {f : Nat → Value} {k1 k2 k3 k4 k5 k6 k7 : Nat} {v1 v2 v3 v4 v5 v6 v7 : Value} (h1 : f k1 = v1) (h2 : f k2 = v2) (h3 : f k3 = v3) (h4 : f k4 = v4) (h5 : f k5 = v5) (h6 : f k6 = v6) (h7 : f k7 = v7) : ∃ g, f = upd (upd (upd (upd (upd (upd (upd g k1 v1) k2 v2) k3 v3) k4 v4) k5 v5) k6 v6) k7 v7 := ⟨f, by rw [upd_same h1, upd_same h2, upd_same h3, upd_same h4, upd_same h5, upd_same h6, upd_same h7]⟩
theorem lv8 {f : Nat → Value} {k1 k2 k3 k4 k5 k6 k7 k8 : Nat} {v1 v2 v3 v4 v5 v6 v7 v8 : Value} (h1 : f k1 = v1) (h2 : f k2 = v2) (h3 : f k3 = v3) (h4 : f k4 = v4) (h5 : f k5 = v5) (h6 : f k6 = v6) (h7 : f k7 = v7) (h8 : f k8 = v8) : ∃ g, f = upd (upd (upd (upd (upd (upd (upd (upd g k1 v1) k2 v2) k3 v3) k4 v4) k5 v5) k6 v6) k7 v7) k8 v8 := ⟨f, by rw [upd_same h1, upd_same h2, upd_same h3, upd_same h4, upd_same h5, upd_same h6, upd_same h7, upd_same h8]⟩
theorem zeroCells_one (z : Value) (n : Nat) (h1 : z.cells = #[z]) : Builtin.zeroCells z.cells n = (List.replicate n z).toArray := by
  unfold Builtin.zeroCells
  rw [h1]
  apply Array.toList_inj.1
  apply List.ext_getElem?
  intro i
  simp only [Array.toList_map, Array.toList_range, List.getElem?_map, List.getElem?_range', List.getElem?_replicate]
  by_cases hi : i < n
  · have : i < n * #[z].size := by simpa using hi
    rw [List.getElem?_range this]
    simp [hi, Nat.mod_one]
  · rw [List.getElem?_eq_none (by simp; omega)]
    simp [hi]
section
variable {P : Program} {W : World}
theorem appz_run (t tn ty e : TypeId) {z : Value} {bytes : Nat} {kn k : IntKind} (ht : P.underlying t = some (.slice e)) (htn : P.underlying tn = some (.int kn)) (hi : Inf P e z 1 bytes) (hz1 : z.oneCell' = true)
    (v : Value) (n : Nat) (xs : List Value) (hown : W.ownsRow 0 e 1 v n xs) (m : Nat) (h63 : n + m ≤ 100000000000) (hbytes : (n + m) * bytes ≤ 140737488355328) :
    ∃ v' W', (Builtin.append_ #[t, tn] ty #[v, .int k m]).run P W = .ok v' W' ∧ W'.ownsRow 0 e 1 v' (n + m) (xs ++ List.replicate m z) ∧ W.grownBy W' v.ownBlock ∧ (∀ k, v'.ownBlock = some k → v.ownBlock = some k ∨ W.heap.size ≤ k) := by
  obtain ⟨i, hi0, hz, hsz, hb⟩ := hi.ex
  subst hb
  have hzc := one_cells hz1
  have hzz := zeroCells_one z m hzc
  have hw : IntKind.i64.wrap (m : Int) = m := by rw [IntKind.wrap_i64]; omega
  have hneg : ¬ ((m : Int) < 0) := by omega
  have hmb : m * i.bytes ≤ 140737488355328 := Nat.le_trans (Nat.mul_le_mul_right _ (by omega)) hbytes
  have h48i : ¬ (281474976710656 < (m : Int) * (i.bytes : Int)) := by
    rw [← Int.natCast_mul]; omega
  have hmx : n + m ≤ maxLen := by unfold maxLen; omega
  have hlen : (xs ++ List.replicate m z).length = (n + m) * 1 := by rw [List.length_append, hown.1, List.length_replicate]; omega
  have hgrown : ∀ (old : Nat), old < n + m → ∀ (row : Option Nat),
      (W.drew.alloc (.cells (xs.toArray ++ (List.replicate m z).toArray ++ Builtin.zeroCells z.cells (grownCap W (n + m) old e - (n + m))) e)).ownsRow 0 e 1
        (.slice (some ⟨W.heap.size, 0, none⟩) (n + m) (grownCap W (n + m) old e)) (n + m) (xs ++ List.replicate m z) ∧
      W.grownBy (W.drew.alloc (.cells (xs.toArray ++ (List.replicate m z).toArray ++ Builtin.zeroCells z.cells (grownCap W (n + m) old e - (n + m))) e)) row := by
    intro old ho row
    have hge := grownCap_ge W (n + m) old e
    have hcm : grownCap W (n + m) old e ≤ maxLen := grownCap_le_maxLen W (n + m) old e hmx
    refine ⟨⟨hlen, .inr ⟨W.heap.size, _, _, rfl, Nat.zero_le _, heap_alloc_new W.drew _, hge, hcm, ?_, ?_⟩⟩, ⟨rfl, rfl, rfl, by simp, fun k hk _ => Go.heap_alloc_old W.drew _ hk⟩⟩
    · have hx := hown.1
      have hz0 : z.cells.size = 1 := by rw [hzc]; rfl
      simp only [Array.size_append, List.size_toArray, size_zeroCells, hz0, hx, List.length_replicate]
      omega
    · simp only [Array.toList_append, List.append_assoc]
      rw [← List.append_assoc, ← hlen]
      exact List.take_left
  rcases hown.2 with ⟨rfl, rfl⟩ | ⟨g, cap, cur, rfl, hbg, hg, hnc, hcm, hcs, htake⟩
  · have hx : xs = [] := List.eq_nil_of_length_eq_zero (by simpa using hown.1)
    subst hx
    by_cases hm : m = 0
    · subst hm
      refine ⟨.slice none 0 0, W, ?_, World.ownsRow_nil W 0 e 1, ⟨rfl, rfl, rfl, Nat.le_refl _, fun _ _ _ => rfl⟩, fun k hk => by cases hk⟩
      have hw0 : IntKind.i64.wrap 0 = 0 := rfl
      simp [Builtin.append_, run_underlying ht, run_underlying htn, Go.sizeOf, typeInfo, hi0, asInt, asIntOf, hsz, hw0]
    · have hr := Lib.run_append_nil_zeros (P := P) W t tn ty e i z k kn ht htn hi0 hz m (by omega) (by omega) (by omega) (by omega)
      have hgr := hgrown 0 (by omega) (Value.ownBlock (.slice none 0 0))
      rw [hzz] at hr
      simp only [Nat.zero_add, List.nil_append, Array.empty_append] at hgr ⊢
      refine ⟨_, _, hr, ?_, hgr.2, fun k hk => .inr ?_⟩
      · have := hgr.1; simpa using this
      · simp [Value.ownBlock] at hk; omega
  · by_cases hroom : n + m ≤ cap
    · have hst := run_storeCells_at P g (n * 1) e (List.replicate m z) 0 cur W hg (by simp; omega) (by intro u hu; rw [(List.mem_replicate.1 hu).2]; exact hz1)
      simp only [Nat.add_zero] at hst
      have hr : (Builtin.append_ #[t, tn] ty #[.slice (some ⟨g, 0, none⟩) n cap, .int k m]).run P W = .ok (.slice (some ⟨g, 0, none⟩) (n + m) cap) (W.setRow g (cur.toList.take (n * 1) ++ List.replicate m z ++ cur.toList.drop (n * 1 + (List.replicate m z).length)).toArray) := by
        by_cases h0 : m = 0
        · subst h0
          have hw0 : IntKind.i64.wrap 0 = 0 := rfl
          have hroom2 : n ≤ cap := by omega
          simp at hst
          simp [Builtin.append_, run_underlying ht, run_underlying htn, Go.sizeOf, typeInfo, hi0, asInt, asIntOf, hsz, hw0, hroom2, Addr.add_lit, hst]
        · simp only [Nat.mul_one, List.length_replicate, List.append_assoc] at hst
          simp [Builtin.append_, run_underlying ht, run_underlying htn, Go.sizeOf, typeInfo, zeroValue, hi0, hz, asInt, asIntOf, hsz, hw, hneg, h48i, hroom, h0, hzz, Addr.add_lit, hst]
      refine ⟨_, _, hr, ⟨hlen, .inr ⟨g, cap, _, rfl, hbg, setRow_heap W g cur _ e _ hg, hroom, hcm, ?_, ?_⟩⟩, ⟨rfl, rfl, rfl, by simp, fun k _ hk => setRow_other W g k _ (fun e => hk (by simp [Value.ownBlock, e]))⟩, fun k hk => .inl hk⟩
      · simp only [List.size_toArray, List.length_append, List.length_take, List.length_drop, Array.length_toList, List.length_replicate]
        omega
      · rw [htake, ← hlen]
        exact List.take_left
    · have hr : (Builtin.append_ #[t, tn] ty #[.slice (some ⟨g, 0, none⟩) n cap, .int k m]).run P W = .ok (.slice (some ⟨W.heap.size, 0, none⟩) (n + m) (grownCap W (n + m) cap e)) (W.drew.alloc (.cells (xs.toArray ++ (List.replicate m z).toArray ++ Builtin.zeroCells z.cells (grownCap W (n + m) cap e - (n + m))) e)) := by
        have h0 : m ≠ 0 := by omega
        have hn : ¬ (n + m ≤ cap) := hroom
        have h63' : ¬ (9223372036854775807 < ((n : Int) + (m : Int))) := by omega
        have hfit := growslice_fits (need := n + m) (old := cap) (bytes := i.bytes) (by omega) hbytes
        have h48' : ¬ (281474976710656 < Builtin.nextslicecap (n + m) cap * i.bytes) := by omega
        have holds : ∀ j u, xs[j]? = some u → W.cell? ((⟨g, 0, none⟩ : Addr).add j) = some u := hown.cells (g := g) rfl
        have hfo := run_firstCells_some (P := P) W.drew 1 n ⟨g, 0, none⟩ n cap xs hown.1 (by simpa using holds)
        simp [Builtin.append_, run_underlying ht, run_underlying htn, Go.sizeOf, typeInfo, zeroValue, hi0, hz, asInt, asIntOf, hsz, hw, hneg, h48i, hn, h0, h63', h48', Question.forced, hfo, hzz, newRow, grownCap]
      have hgr := hgrown cap (by omega) (Value.ownBlock (.slice (some ⟨g, 0, none⟩) n cap))
      exact ⟨_, _, hr, hgr.1, hgr.2, fun k hk => .inr (by simp [Value.ownBlock] at hk; omega)⟩
end
section
variable {P : Program} {n : Nat} {f : Nat → Value} {W w0 : World} {dst : Option Tmp} {ty : TypeId} {pos : String} {af : Array Edge} {g : Option (Nat × Bool)} {x y : Operand} {t t2 e : TypeId} {v : Value} {k k2 : IntKind} {a b : Int}
/-- s[lo:] -/
theorem r_slo {p o l c : Nat} {lo : Operand} {i m : Nat} (hx : ev n f x = .slice (some ⟨p, o, none⟩) l c) (hl : ev n f lo = .int k a) (ha : a = (i : Int)) (hi : i ≤ l) (h : P.underlying t = some (.slice e)) (hm : ∀ W, (Go.sizeOf e).run P W = .ok m W) :
    (execOp (ev n f) ⟨dst, .slice t x (some lo) none none, ty, pos, af, g⟩).run P W = .ok (.value (.slice (some (if c = i then ⟨p, o, none⟩ else ⟨p, o + i * m, none⟩)) (l - i) (c - i))) W := by
  subst ha
  have h1 : (0 : Int) ≤ i ∧ (i : Int) ≤ l := by omega
  simp only [execOp, Instr.sliceAt, Instr.slice, Instr.sliceBounds, Instr.sliceBound, hx, hl, asIntOf, Option.map_some, Option.map_none, Sem.run_bind, run_underlying h, Result.andThen_ok, Sem.run_pure, h1, and_self, if_true, hm, Int.toNat_natCast, add_plain]
  split <;> rfl
/-- s[:hi] -/
theorem r_shi {p o l c : Nat} {hi : Operand} {j m : Nat} (hx : ev n f x = .slice (some ⟨p, o, none⟩) l c) (hh : ev n f hi = .int k a) (ha : a = (j : Int)) (hj : j ≤ c) (h : P.underlying t = some (.slice e)) (hm : ∀ W, (Go.sizeOf e).run P W = .ok m W) :
    (execOp (ev n f) ⟨dst, .slice t x none (some hi) none, ty, pos, af, g⟩).run P W = .ok (.value (.slice (some ⟨p, o, none⟩) j c)) W := by
  subst ha
  have h1 : (0 : Int) ≤ j ∧ (j : Int) ≤ c := by omega
  simp only [execOp, Instr.sliceAt, Instr.slice, Instr.sliceBounds, Instr.sliceBound, hx, hh, asIntOf, Option.map_some, Option.map_none, Sem.run_bind, run_underlying h, Result.andThen_ok, Sem.run_pure, h1, and_self, if_true, hm, Int.toNat_natCast, add_plain]
  split <;> simp
end
section
variable {P : Program} {ops : Array Oper} {rest : List Oper} {n k k2 : Nat} {f : Nat → Value} {W w0 : World} {F : List Nat} {L : List Ent} {Q : Exit → Act → World → Prop} {ty ty2 : TypeId} {pos pos2 : String} {af af2 : Array Edge} {g : Option (Nat × Bool)} {x y s : Operand} {v u : Value} {t tn e : TypeId}
/-- append(s, make([]T, m)...) -/
theorem s_apz {α : Type} {enc : α → Value} {z : α} {bytes m l : Nat} {xs : List α} {kn q : IntKind} {a : Int} (H : Heap w0 F L W) (j : Nat) (hj : L[j]? = some (ownN 1 v m (xs.map enc) e))
    (hw : Region.wanted ⟨some k, .call ⟨.builtin .append, #[s, y], #[t, tn]⟩, ty, pos, af, g⟩ (yl n f ops) = true) (hs : ev n f s = v) (hy : ev n f y = .int q a) (ha : a = (l : Int))
    (hm : m + l ≤ 100000000000 ∧ (m + l) * bytes ≤ 140737488355328) (ht : P.underlying t = some (.slice e)) (htn : P.underlying tn = some (.int kn)) (hi : Inf P e (enc z) 1 bytes) (hz0 : (enc z).oneCell' = true)
    (h : ∀ A' c' W', Heap w0 F (L.set j (ownN 1 (.slice A' (m + l) c') (m + l) ((xs ++ List.replicate l z).map enc) e)) W' → SL P ops Q rest n (upd f k (.slice A' (m + l) c')) W') :
    SL P ops Q (⟨some k, .call ⟨.builtin .append, #[s, y], #[t, tn]⟩, ty, pos, af, g⟩ :: rest) n f W := by
  subst ha
  have hown := H.own_get j hj
  obtain ⟨v', W2, hr, o1, o2, o3⟩ := appz_run (P := P) (W := W) t tn ty e (k := q) ht htn hi hz0 v m (xs.map enc) hown l hm.1 hm.2
  have H3 := H.app j hj (m := l) o1 o2 o3
  rw [← List.map_replicate, ← List.map_append] at H3
  obtain ⟨A', c', rfl⟩ : ∃ A' c', v' = .slice A' (m + l) c' := by
    rcases o1.2 with ⟨rfl, h0⟩ | ⟨q, cap, cur, rfl, _⟩
    · exact ⟨none, 0, by rw [h0]⟩
    · exact ⟨_, _, rfl⟩
  exact s_run rfl hw (W' := W2) (v := .slice A' (m + l) c') (by simp only [execOp, resolve, invoke, builtin, List.map_toArray, List.map_cons, List.map_nil, hs, hy, Sem.run_bind, Sem.run_pure, Result.andThen_ok, hr]) (h A' c' W2 H3)
/-- make([]T, 0, m) -/
theorem s_mk0 {α : Type} (enc : α → Value) (z : α) {kl kc : IntKind} {a b : Int} (m : Nat) {bytes : Nat} (H : Heap w0 F L W) (hw : Region.wanted ⟨some k, .makeSlice t x y, ty, pos, af, g⟩ (yl n f ops) = true)
    (hx : ev n f x = .int kl a) (hy : ev n f y = .int kc b) (ha : a = 0) (hb : b = (m : Int)) (hm : m * bytes ≤ 140737488355328 ∧ m ≤ 100000000000) (ht : P.underlying t = some (.slice e)) (hi : Inf P e (enc z) 1 bytes) (h1 : (enc z).oneCell' = true)
    (h : ∀ p W', Heap w0 F (ownN 1 (.slice (some ⟨p, 0, none⟩) 0 m) 0 (([] : List α).map enc) e :: L) W' → SL P ops Q rest n (upd f k (.slice (some ⟨p, 0, none⟩) 0 m)) W') : SL P ops Q (⟨some k, .makeSlice t x y, ty, pos, af, g⟩ :: rest) n f W := by
  subst ha; subst hb
  obtain ⟨i, hi, hz, hs, hby⟩ := hi.ex
  have hb' : (i.bytes : Int) * (m : Int) ≤ 281474976710656 := by
    have h2 : ((i.bytes * m : Nat) : Int) ≤ 281474976710656 := by rw [hby, Nat.mul_comm]; omega
    rwa [Int.natCast_mul] at h2
  have hr := run_make (P := P) W t e i (enc z) ht hi hz kl kc 0 m (by omega) (by omega) hb' (by omega)
  simp only [Int.toNat_natCast, hs, Nat.mul_one, madeCells_one _ _ (one_cells h1), Int.toNat_zero] at hr
  refine s_run rfl hw (W' := W.alloc (.cells (List.replicate m (enc z)).toArray e)) (by simp only [execOp, hx, hy, Sem.run_bind, hr, Result.andThen_ok]; rfl) (h W.heap.size _ ?_)
  refine H.more (A := [ownN 1 (.slice (some ⟨W.heap.size, 0, none⟩) 0 m) 0 [] e]) ⟨?_, by simp [ids, ownN, Value.ownBlock], by simp [ids, ownN, Value.ownBlock], Only.of_below ((Below.refl _ _).alloc (Nat.le_refl _) _) _⟩
  intro E hE; rw [List.mem_singleton.1 hE]
  exact World.ownsRow_made W _ m (Nat.zero_le _) (by unfold maxLen; omega) (by simp)
end
end Go.Proofs.Ytmekhdclnhhhbaa
end

section
namespace Go.Proofs.Ytmekhdclnhhhbaa
open Go.RowKit
set_option linter.unusedSimpArgs false
set_option linter.unusedVariables false
theorem reads_drop {α : Type} {enc : α → Value} {W : World} {b o c : Nat} {ws : List α} (hr : Reads enc W b o ws) (i : Nat) (hc : ws.length ≤ c) (hi : i ≤ ws.length) :
    ∃ o2, (if c = i then (⟨b, o, none⟩ : Addr) else ⟨b, o + i * 1, none⟩) = ⟨b, o2, none⟩ ∧ Reads enc W b o2 (ws.drop i) := by
  by_cases h : c = i
  · refine ⟨o, by rw [if_pos h], ?_⟩
    rw [List.drop_eq_nil_of_le (by omega)]
    intro k z hk; simp at hk
  · refine ⟨o + i * 1, by rw [if_neg h], ?_⟩
    intro k z hk
    rw [List.getElem?_drop] at hk
    have := hr _ z hk
    rwa [← Nat.add_assoc, ← Nat.mul_one i] at this
section
variable {P : Program} {n : Nat} {f : Nat → Value} {W w0 : World} {dst : Option Tmp} {ty : TypeId} {pos : String} {af : Array Edge} {g : Option (Nat × Bool)} {x y : Operand} {t t2 e : TypeId} {v : Value} {k k2 : IntKind} {a b : Int}
theorem r_slo' {p o l c o2 l2 c2 : Nat} {lo : Operand} {i : Nat} (hx : ev n f x = .slice (some ⟨p, o, none⟩) l c) (hl : ev n f lo = .int k a) (ha : a = (i : Int)) (hi : i ≤ l) (ho : (if c = i then (⟨p, o, none⟩ : Addr) else ⟨p, o + i * 1, none⟩) = ⟨p, o2, none⟩) (hl2 : l - i = l2) (hc2 : c - i = c2) (h : P.underlying t = some (.slice e)) (hm : ∀ W, (Go.sizeOf e).run P W = .ok 1 W) :
    (execOp (ev n f) ⟨dst, .slice t x (some lo) none none, ty, pos, af, g⟩).run P W = .ok (.value (.slice (some ⟨p, o2, none⟩) l2 c2)) W := by
  rw [r_slo hx hl ha hi h hm, ho, hl2, hc2]
end
theorem read_cons (f zz mm : Nat) (t : List Int) (N : Int) (o : List Int) (h : (o.length : Int) < N) :
    Im.read (f + 1) ((zz : Int) :: (mm : Int) :: t) N o = if Im.bad zz mm (N - o.length) o.length = true then ([], 26) else if (mm : Int) > (t.length : Int) then ([], 31)
      else if Im.noZero (t.take mm) = true then Im.read f (t.drop mm) N (o ++ List.replicate zz 0 ++ t.take mm) else ([], 26) := by
  rw [Im.read, if_pos h, if_neg (by simp)]
  rfl
theorem read_short (f : Nat) (w : List Int) (N : Int) (o : List Int) (h : (o.length : Int) < N) (h2 : w.length < 2) : Im.read (f + 1) w N o = ([], 31) := by
  rw [Im.read, if_pos h, if_pos h2]
theorem read_end (f : Nat) (w : List Int) (N : Int) (o : List Int) (h : ¬ (o.length : Int) < N) : Im.read (f + 1) w N o = if w.length > 0 then ([], 32) else (o, 0) := by
  rw [Im.read, if_neg h]
theorem noZero_snoc (l : List Int) (k : Nat) (x : Int) (h : l[k]? = some x) (h0 : Im.noZero (l.take k) = true) (hx : x ≠ 0) : Im.noZero (l.take (k + 1)) = true := by
  rw [← take_snoc h]
  unfold Im.noZero at *
  rw [List.all_append, h0]
  simp [hx]
theorem noZero_no (l : List Int) (k m : Nat) (h : l[k]? = some 0) (hk : k < m) : ¬ Im.noZero (l.take m) = true := by
  intro h0
  unfold Im.noZero at h0
  rw [List.all_eq_true] at h0
  have : (l.take m)[k]? = some 0 := by rw [List.getElem?_take, if_pos hk]; exact h
  have := h0 0 (List.mem_of_getElem? this)
  simp at this
/-- what read gives -/
def RdPost (R : List Int × Int) (w : World) (e : Ending) (w' : World) : Prop :=
  ∃ A' c', e = .returned (.tuple #[.slice A' R.1.length c', .int .i64 R.2]) ∧ Heap w [] [ownN 1 (.slice A' R.1.length c') R.1.length (R.1.map (Value.int .u64)) 22] w'
theorem RdPost.err {w W : World} {L : List Ent} (H : Heap w [] L W) (code : Int) : RdPost ([], code) w (.returned (.tuple #[.slice none 0 0, .int .i64 code])) W :=
  ⟨none, 0, rfl, own0 H.clear _⟩
theorem iRead (b o c N : Nat) (wl : List Int) (w : World) (hr : Reads (Value.int .u64) w b o wl) (hc : wl.length ≤ c ∧ c ≤ 9223372036854775807) (hq : wl.length ≤ 1000000) (hU : Im.U wl) (hN : N ≤ 200000) :
    Calls Try.prog 83 [.slice (some ⟨b, o, none⟩) wl.length c, .int .i64 N].toArray w (RdPost (Im.read (N + 1) wl N []) w) := by
  have H := Heap.nil w
  generalize hR : Im.read (N + 1) wl N [] = R
  refine k_in (N := 98) Try.func83 rfl rfl rfl ?_
  refine k_seq ?_
  refine k_rg ?_
  refine s_run rfl rfl (r_as (v := .slice _ _ _) rfl) ?_
  refine s_run rfl rfl (r_as (v := .int _ _) rfl) ?_
  refine k_nil ?_
  refine c_norm ?_
  refine k_seq ?_
  refine k_rg ?_
  refine s_run rfl rfl (r_mv (v := .int _ _) rfl) ?_
  refine s_mk0 (Value.int .u64) 0 (m := N) H rfl rfl rfl (by omega) (by omega) (by omega) Try.underlying25 inf22 rfl ?_
  intro po _ H'; clear H; have H := H'; clear H'
  refine s_run rfl rfl (r_as (v := .slice _ _ _) rfl) ?_
  refine k_nil ?_
  refine c_norm ?_
  refine k_seq ?_
  refine k_b ?_
  refine k_loop (fun z f W => ∃ (wl' out : List Int) (o' c' : Nat) (A2 : Option Addr) (c2 : Nat), N < out.length + z ∧ out.length ≤ N ∧ Im.read z wl' N out = R ∧ f 0 = .slice (some ⟨b, o', none⟩) wl'.length c' ∧ wl'.length ≤ c' ∧ c' ≤ 9223372036854775807 ∧ wl'.length ≤ 1000000 ∧ Im.U wl' ∧ Reads (Value.int .u64) w b o' wl' ∧ f 1 = .int .i64 N ∧ f 6 = .slice A2 out.length c2 ∧ Heap w [] [ownN 1 (.slice A2 out.length c2) out.length (out.map (Value.int .u64)) 22] W) (N + 1) ⟨wl, [], o, c, some ⟨po, 0, none⟩, N, by simp, by simp, hR, rfl, hc.1, hc.2, hq, hU, hr, rfl, rfl, H⟩ ?_
  clear H hR hr hc hq hU
  rintro z f W ⟨wl, out, o, c, A2, c2, hz, hon, hR, f0, hc, hcm, hq, hU, hr, f1, f6, H⟩
  obtain ⟨f, rfl⟩ := live3 f0 f1 f6
  clear f0 f1 f6
  obtain ⟨fu, rfl⟩ : ∃ fu, z = fu + 1 := ⟨z - 1, by omega⟩
  by_cases hlt : out.length < N
  · by_cases h2 : wl.length < 2
    · rw [read_short fu wl N out (by omega) h2] at hR
      subst hR
      refine k_seq ?_
      refine k_seq ?_
      refine k_rg ?_
      refine s_run rfl rfl (r_mv (v := .slice _ _ _) rfl) ?_
      refine s_run rfl rfl (r_len rfl Try.underlying25) ?_
      refine s_run rfl rfl (r_mv (v := .int _ _) rfl) ?_
      refine s_run rfl rfl (r_lssT rfl rfl (by omega)) ?_
      refine k_nil ?_
      refine c_norm ?_
      refine k_t rfl ?_
      refine k_skip ?_
      refine c_norm ?_
      refine k_b ?_
      refine k_seq ?_
      refine k_seq ?_
      refine k_rg ?_
      refine s_run rfl rfl (r_mv (v := .slice _ _ _) rfl) ?_
      refine s_run rfl rfl (r_len rfl Try.underlying25) ?_
      refine s_run rfl rfl (r_lssT rfl rfl (by omega)) ?_
      refine k_nil ?_
      refine c_norm ?_
      refine k_t rfl ?_
      refine k_seq ?_
      refine k_rg ?_
      refine s_run rfl rfl (r_as (v := .slice _ _ _) rfl) ?_
      refine s_run rfl rfl (r_as (v := .int _ _) rfl) ?_
      refine k_nil ?_
      refine c_norm ?_
      refine k_ret ?_
      refine c_ret ?_
      refine b_ret ?_
      refine c_ret ?_
      refine b_ret ?_
      refine c_ret ?_
      refine fin2r (v := .slice _ _ _) (v2 := .int _ _) rfl rfl rfl ?_
      exact RdPost.err H _
    · obtain ⟨a, b', t, rfl⟩ : ∃ a b t, wl = a :: b :: t := by
        rcases wl with _ | ⟨a, _ | ⟨b, t⟩⟩
        · simp at h2
        · simp at h2
        · exact ⟨a, b, t, rfl⟩
      have ha := hU a (by simp)
      have hb := hU b' (by simp)
      obtain ⟨zz, rfl⟩ := Int.eq_ofNat_of_zero_le ha.1
      obtain ⟨mm, rfl⟩ := Int.eq_ofNat_of_zero_le hb.1
      rw [read_cons fu zz mm t N out (by omega)] at hR
      obtain ⟨o2, ho2, hr2⟩ := reads_drop (c := c) hr 2 hc (by simp)
      have hUt : Im.U t := fun x hx => hU x (by simp [hx])
      simp only [List.drop_succ_cons, List.drop_zero] at hr2
      simp only [List.length_cons] at hc hq h2 ⊢
      have hc0 := hr 0 _ rfl
      have hc1 := hr 1 _ rfl
      refine k_seq ?_
      refine k_seq ?_
      refine k_rg ?_
      refine s_run rfl rfl (r_mv (v := .slice _ _ _) rfl) ?_
      refine s_run rfl rfl (r_len rfl Try.underlying25) ?_
      refine s_run rfl rfl (r_mv (v := .int _ _) rfl) ?_
      refine s_run rfl rfl (r_lssT rfl rfl (by omega)) ?_
      refine k_nil ?_
      refine c_norm ?_
      refine k_t rfl ?_
      refine k_skip ?_
      refine c_norm ?_
      refine k_b ?_
      refine k_seq ?_
      refine k_seq ?_
      refine k_rg ?_
      refine s_run rfl rfl (r_mv (v := .slice _ _ _) rfl) ?_
      refine s_run rfl rfl (r_len rfl Try.underlying25) ?_
      refine s_run rfl rfl (r_lssF rfl rfl (by omega)) ?_
      refine k_nil ?_
      refine c_norm ?_
      refine k_f rfl ?_
      refine k_skip ?_
      refine c_norm ?_
      refine k_seq ?_
      refine k_q mixed (by kernel_rfl) H ?_
      refine q_run rfl rfl (fun _ H => r_mv (v := .slice _ _ _) rfl) ?_
      refine q_run rfl rfl (fun _ H => r_ix1o (i := 0) rfl rfl (by omega) (by omega) Try.underlying25 sz22) ?_
      refine q_run rfl rfl (fun _ H => r_lr H (i := o + 0) rfl hc0 (by simp) ag22) ?_
      refine q_run rfl rfl (fun _ H => r_mv (v := .slice _ _ _) rfl) ?_
      refine q_run rfl rfl (fun _ H => r_ix1o (i := 1) rfl rfl (by omega) (by omega) Try.underlying25 sz22) ?_
      refine q_run rfl rfl (fun _ H => r_lr H (i := o + 1) rfl hc1 (by simp) ag22) ?_
      refine q_run rfl rfl (fun _ H => r_as (v := .int _ _) rfl) ?_
      refine q_run rfl rfl (fun _ H => r_as (v := .int _ _) rfl) ?_
      refine q_nil ?_
      intro _ H'; clear H; have H := H'; clear H'
      refine c_norm ?_
      refine k_seq ?_
      refine k_rg ?_
      refine s_run rfl rfl (r_mv (v := .slice _ _ _) rfl) ?_
      refine s_run rfl rfl (r_slo' (i := 2) (o2 := o2) (l2 := t.length) (c2 := c - 2) rfl rfl rfl (by omega) ho2 (by omega) rfl Try.underlying25 sz22) ?_
      refine s_run rfl rfl (r_as (v := .slice _ _ _) rfl) ?_
      refine k_nil ?_
      refine c_norm ?_
      refine k_seq ?_
      refine k_rg ?_
      refine s_run rfl rfl (r_mv (v := .int _ _) rfl) ?_
      refine s_run rfl rfl (r_mv (v := .slice _ _ _) rfl) ?_
      refine s_run rfl rfl (r_len rfl Try.underlying25) ?_
      refine s_run rfl rfl (r_sub rfl rfl (wI (by omega))) ?_
      refine s_run rfl rfl (r_cv rfl (by kernel_rfl) Try.underlying22 (wU (by omega))) ?_
      refine s_run rfl rfl (r_as (v := .int _ _) rfl) ?_
      refine k_nil ?_
      refine c_norm ?_
      refine k_seq ?_
      refine k_seq ?_
      refine k_cut (fun f W => f 0 = .slice (some ⟨b, o2, none⟩) t.length (c - 2) ∧ f 1 = .int .i64 N ∧ f 6 = .slice A2 out.length c2 ∧ f 7 = .int .u64 zz ∧ f 8 = .int .u64 mm ∧ f 67 = .bool (Im.bad zz mm (N - out.length) out.length) ∧ Heap w [] [ownN 1 (.slice A2 out.length c2) out.length (out.map (Value.int .u64)) 22] W) ?_ ?_
      · by_cases k1 : (zz : Int) > N - out.length
        · have hbd : Im.bad zz mm (N - out.length) out.length = true := decide_eq_true (by omega)
          rw [hbd]
          refine k_rg ?_
          refine s_run rfl rfl (r_mv (v := .int _ _) rfl) ?_
          refine s_run rfl rfl (r_mv (v := .int _ _) rfl) ?_
          refine s_run rfl rfl (r_gtrT rfl rfl (by omega)) ?_
          refine s_run rfl rfl (r_mv (v := .bool _) rfl) ?_
          refine s_off rfl (g_off 37 (by kernel_rfl) rfl rfl) ?_
          refine s_off rfl (g_off 37 (by kernel_rfl) rfl rfl) ?_
          refine s_off rfl (g_off 37 (by kernel_rfl) rfl rfl) ?_
          refine s_off rfl (g_off 37 (by kernel_rfl) rfl rfl) ?_
          refine s_off rfl (g_off 37 (by kernel_rfl) rfl rfl) ?_
          refine s_run rfl rfl (r_pkT (v := .bool _) rfl rfl) ?_
          refine s_run rfl rfl (r_mv (v := .bool _) rfl) ?_
          refine s_off rfl (g_off 44 (by kernel_rfl) rfl rfl) ?_
          refine s_off rfl (g_off 44 (by kernel_rfl) rfl rfl) ?_
          refine s_off rfl (g_off 44 (by kernel_rfl) rfl rfl) ?_
          refine s_off rfl (g_off 44 (by kernel_rfl) rfl rfl) ?_
          refine s_run rfl rfl (r_pkT (v := .bool _) rfl rfl) ?_
          refine s_run rfl rfl (r_mv (v := .bool _) rfl) ?_
          refine s_off rfl (g_off 50 (by kernel_rfl) rfl rfl) ?_
          refine s_off rfl (g_off 50 (by kernel_rfl) rfl rfl) ?_
          refine s_off rfl (g_off 50 (by kernel_rfl) rfl rfl) ?_
          refine s_off rfl (g_off 50 (by kernel_rfl) rfl rfl) ?_
          refine s_off rfl (g_un 54 (by kernel_rfl) rfl) ?_
          refine s_off rfl (g_un 54 (by kernel_rfl) rfl) ?_
          refine s_off rfl (g_off 50 (by kernel_rfl) rfl rfl) ?_
          refine s_run rfl rfl (r_pkT (v := .bool _) rfl rfl) ?_
          refine s_run rfl rfl (r_mv (v := .bool _) rfl) ?_
          refine s_off rfl (g_off 59 (by kernel_rfl) rfl rfl) ?_
          refine s_off rfl (g_off 59 (by kernel_rfl) rfl rfl) ?_
          refine s_off rfl (g_off 59 (by kernel_rfl) rfl rfl) ?_
          refine s_off rfl (g_un 62 (by kernel_rfl) rfl) ?_
          refine s_off rfl (g_un 62 (by kernel_rfl) rfl) ?_
          refine s_off rfl (g_un 62 (by kernel_rfl) rfl) ?_
          refine s_off rfl (g_off 59 (by kernel_rfl) rfl rfl) ?_
          refine s_run rfl rfl (r_pkT (v := .bool _) rfl rfl) ?_
          refine k_nil ?_
          refine k_met ?_
          exact ⟨rfl, rfl, rfl, rfl, rfl, rfl, H⟩
        by_cases k2 : (mm : Int) > N - out.length - zz
        · have hbd : Im.bad zz mm (N - out.length) out.length = true := decide_eq_true (by omega)
          rw [hbd]
          refine k_rg ?_
          refine s_run rfl rfl (r_mv (v := .int _ _) rfl) ?_
          refine s_run rfl rfl (r_mv (v := .int _ _) rfl) ?_
          refine s_run rfl rfl (r_gtrF rfl rfl (by omega)) ?_
          refine s_run rfl rfl (r_mv (v := .bool _) rfl) ?_
          refine s_run rfl (g_on 37 (by kernel_rfl) rfl) (r_mv (v := .int _ _) rfl) ?_
          refine s_run rfl (g_on 37 (by kernel_rfl) rfl) (r_mv (v := .int _ _) rfl) ?_
          refine s_run rfl (g_on 37 (by kernel_rfl) rfl) (r_mv (v := .int _ _) rfl) ?_
          refine s_run rfl (g_on 37 (by kernel_rfl) rfl) (r_sub rfl rfl (wU (by omega))) ?_
          refine s_run rfl (g_on 37 (by kernel_rfl) rfl) (r_gtrT rfl rfl (by omega)) ?_
          refine s_run rfl rfl (r_pkF (v := .bool _) rfl rfl) ?_
          refine s_run rfl rfl (r_mv (v := .bool _) rfl) ?_
          refine s_off rfl (g_off 44 (by kernel_rfl) rfl rfl) ?_
          refine s_off rfl (g_off 44 (by kernel_rfl) rfl rfl) ?_
          refine s_off rfl (g_off 44 (by kernel_rfl) rfl rfl) ?_
          refine s_off rfl (g_off 44 (by kernel_rfl) rfl rfl) ?_
          refine s_run rfl rfl (r_pkT (v := .bool _) rfl rfl) ?_
          refine s_run rfl rfl (r_mv (v := .bool _) rfl) ?_
          refine s_off rfl (g_off 50 (by kernel_rfl) rfl rfl) ?_
          refine s_off rfl (g_off 50 (by kernel_rfl) rfl rfl) ?_
          refine s_off rfl (g_off 50 (by kernel_rfl) rfl rfl) ?_
          refine s_off rfl (g_off 50 (by kernel_rfl) rfl rfl) ?_
          refine s_off rfl (g_un 54 (by kernel_rfl) rfl) ?_
          refine s_off rfl (g_un 54 (by kernel_rfl) rfl) ?_
          refine s_off rfl (g_off 50 (by kernel_rfl) rfl rfl) ?_
          refine s_run rfl rfl (r_pkT (v := .bool _) rfl rfl) ?_
          refine s_run rfl rfl (r_mv (v := .bool _) rfl) ?_
          refine s_off rfl (g_off 59 (by kernel_rfl) rfl rfl) ?_
          refine s_off rfl (g_off 59 (by kernel_rfl) rfl rfl) ?_
          refine s_off rfl (g_off 59 (by kernel_rfl) rfl rfl) ?_
          refine s_off rfl (g_un 62 (by kernel_rfl) rfl) ?_
          refine s_off rfl (g_un 62 (by kernel_rfl) rfl) ?_
          refine s_off rfl (g_un 62 (by kernel_rfl) rfl) ?_
          refine s_off rfl (g_off 59 (by kernel_rfl) rfl rfl) ?_
          refine s_run rfl rfl (r_pkT (v := .bool _) rfl rfl) ?_
          refine k_nil ?_
          refine k_met ?_
          exact ⟨rfl, rfl, rfl, rfl, rfl, rfl, H⟩
        by_cases k3 : (zz : Int) + mm = 0
        · have hbd : Im.bad zz mm (N - out.length) out.length = true := decide_eq_true (by omega)
          rw [hbd]
          refine k_rg ?_
          refine s_run rfl rfl (r_mv (v := .int _ _) rfl) ?_
          refine s_run rfl rfl (r_mv (v := .int _ _) rfl) ?_
          refine s_run rfl rfl (r_gtrF rfl rfl (by omega)) ?_
          refine s_run rfl rfl (r_mv (v := .bool _) rfl) ?_
          refine s_run rfl (g_on 37 (by kernel_rfl) rfl) (r_mv (v := .int _ _) rfl) ?_
          refine s_run rfl (g_on 37 (by kernel_rfl) rfl) (r_mv (v := .int _ _) rfl) ?_
          refine s_run rfl (g_on 37 (by kernel_rfl) rfl) (r_mv (v := .int _ _) rfl) ?_
          refine s_run rfl (g_on 37 (by kernel_rfl) rfl) (r_sub rfl rfl (wU (by omega))) ?_
          refine s_run rfl (g_on 37 (by kernel_rfl) rfl) (r_gtrF rfl rfl (by omega)) ?_
          refine s_run rfl rfl (r_pkF (v := .bool _) rfl rfl) ?_
          refine s_run rfl rfl (r_mv (v := .bool _) rfl) ?_
          refine s_run rfl (g_on 44 (by kernel_rfl) rfl) (r_mv (v := .int _ _) rfl) ?_
          refine s_run rfl (g_on 44 (by kernel_rfl) rfl) (r_mv (v := .int _ _) rfl) ?_
          refine s_run rfl (g_on 44 (by kernel_rfl) rfl) (r_add rfl rfl (wU (by omega))) ?_
          refine s_run rfl (g_on 44 (by kernel_rfl) rfl) (r_eqlT rfl rfl (by omega)) ?_
          refine s_run rfl rfl (r_pkF (v := .bool _) rfl rfl) ?_
          refine s_run rfl rfl (r_mv (v := .bool _) rfl) ?_
          refine s_off rfl (g_off 50 (by kernel_rfl) rfl rfl) ?_
          refine s_off rfl (g_off 50 (by kernel_rfl) rfl rfl) ?_
          refine s_off rfl (g_off 50 (by kernel_rfl) rfl rfl) ?_
          refine s_off rfl (g_off 50 (by kernel_rfl) rfl rfl) ?_
          refine s_off rfl (g_un 54 (by kernel_rfl) rfl) ?_
          refine s_off rfl (g_un 54 (by kernel_rfl) rfl) ?_
          refine s_off rfl (g_off 50 (by kernel_rfl) rfl rfl) ?_
          refine s_run rfl rfl (r_pkT (v := .bool _) rfl rfl) ?_
          refine s_run rfl rfl (r_mv (v := .bool _) rfl) ?_
          refine s_off rfl (g_off 59 (by kernel_rfl) rfl rfl) ?_
          refine s_off rfl (g_off 59 (by kernel_rfl) rfl rfl) ?_
          refine s_off rfl (g_off 59 (by kernel_rfl) rfl rfl) ?_
          refine s_off rfl (g_un 62 (by kernel_rfl) rfl) ?_
          refine s_off rfl (g_un 62 (by kernel_rfl) rfl) ?_
          refine s_off rfl (g_un 62 (by kernel_rfl) rfl) ?_
          refine s_off rfl (g_off 59 (by kernel_rfl) rfl rfl) ?_
          refine s_run rfl rfl (r_pkT (v := .bool _) rfl rfl) ?_
          refine k_nil ?_
          refine k_met ?_
          exact ⟨rfl, rfl, rfl, rfl, rfl, rfl, H⟩
        by_cases k4 : 0 < out.length
        · by_cases k5 : zz = 0
          · have hbd : Im.bad zz mm (N - out.length) out.length = true := decide_eq_true (by omega)
            rw [hbd]
            refine k_rg ?_
            refine s_run rfl rfl (r_mv (v := .int _ _) rfl) ?_
            refine s_run rfl rfl (r_mv (v := .int _ _) rfl) ?_
            refine s_run rfl rfl (r_gtrF rfl rfl (by omega)) ?_
            refine s_run rfl rfl (r_mv (v := .bool _) rfl) ?_
            refine s_run rfl (g_on 37 (by kernel_rfl) rfl) (r_mv (v := .int _ _) rfl) ?_
            refine s_run rfl (g_on 37 (by kernel_rfl) rfl) (r_mv (v := .int _ _) rfl) ?_
            refine s_run rfl (g_on 37 (by kernel_rfl) rfl) (r_mv (v := .int _ _) rfl) ?_
            refine s_run rfl (g_on 37 (by kernel_rfl) rfl) (r_sub rfl rfl (wU (by omega))) ?_
            refine s_run rfl (g_on 37 (by kernel_rfl) rfl) (r_gtrF rfl rfl (by omega)) ?_
            refine s_run rfl rfl (r_pkF (v := .bool _) rfl rfl) ?_
            refine s_run rfl rfl (r_mv (v := .bool _) rfl) ?_
            refine s_run rfl (g_on 44 (by kernel_rfl) rfl) (r_mv (v := .int _ _) rfl) ?_
            refine s_run rfl (g_on 44 (by kernel_rfl) rfl) (r_mv (v := .int _ _) rfl) ?_
            refine s_run rfl (g_on 44 (by kernel_rfl) rfl) (r_add rfl rfl (wU (by omega))) ?_
            refine s_run rfl (g_on 44 (by kernel_rfl) rfl) (r_eqlF rfl rfl (by omega)) ?_
            refine s_run rfl rfl (r_pkF (v := .bool _) rfl rfl) ?_
            refine s_run rfl rfl (r_mv (v := .bool _) rfl) ?_
            refine s_run rfl (g_on 50 (by kernel_rfl) rfl) (r_mv (v := .slice _ _ _) rfl) ?_
            refine s_run rfl (g_on 50 (by kernel_rfl) rfl) (r_len rfl Try.underlying25) ?_
            refine s_run rfl (g_on 50 (by kernel_rfl) rfl) (r_gtrT rfl rfl (by omega)) ?_
            refine s_run rfl (g_on 50 (by kernel_rfl) rfl) (r_mv (v := .bool _) rfl) ?_
            refine s_run rfl (g_on 54 (by kernel_rfl) rfl) (r_mv (v := .int _ _) rfl) ?_
            refine s_run rfl (g_on 54 (by kernel_rfl) rfl) (r_eqlT rfl rfl (by omega)) ?_
            refine s_run rfl (g_on 50 (by kernel_rfl) rfl) (r_pkT (v := .bool _) rfl rfl) ?_
            refine s_run rfl rfl (r_pkF (v := .bool _) rfl rfl) ?_
            refine s_run rfl rfl (r_mv (v := .bool _) rfl) ?_
            refine s_off rfl (g_off 59 (by kernel_rfl) rfl rfl) ?_
            refine s_off rfl (g_off 59 (by kernel_rfl) rfl rfl) ?_
            refine s_off rfl (g_off 59 (by kernel_rfl) rfl rfl) ?_
            refine s_off rfl (g_un 62 (by kernel_rfl) rfl) ?_
            refine s_off rfl (g_un 62 (by kernel_rfl) rfl) ?_
            refine s_off rfl (g_un 62 (by kernel_rfl) rfl) ?_
            refine s_off rfl (g_off 59 (by kernel_rfl) rfl rfl) ?_
            refine s_run rfl rfl (r_pkT (v := .bool _) rfl rfl) ?_
            refine k_nil ?_
            refine k_met ?_
            exact ⟨rfl, rfl, rfl, rfl, rfl, rfl, H⟩
          by_cases k6 : mm = 0
          · by_cases k7 : (zz : Int) = N - out.length
            · have hbd : Im.bad zz mm (N - out.length) out.length = false := decide_eq_false (by omega)
              rw [hbd]
              refine k_rg ?_
              refine s_run rfl rfl (r_mv (v := .int _ _) rfl) ?_
              refine s_run rfl rfl (r_mv (v := .int _ _) rfl) ?_
              refine s_run rfl rfl (r_gtrF rfl rfl (by omega)) ?_
              refine s_run rfl rfl (r_mv (v := .bool _) rfl) ?_
              refine s_run rfl (g_on 37 (by kernel_rfl) rfl) (r_mv (v := .int _ _) rfl) ?_
              refine s_run rfl (g_on 37 (by kernel_rfl) rfl) (r_mv (v := .int _ _) rfl) ?_
              refine s_run rfl (g_on 37 (by kernel_rfl) rfl) (r_mv (v := .int _ _) rfl) ?_
              refine s_run rfl (g_on 37 (by kernel_rfl) rfl) (r_sub rfl rfl (wU (by omega))) ?_
              refine s_run rfl (g_on 37 (by kernel_rfl) rfl) (r_gtrF rfl rfl (by omega)) ?_
              refine s_run rfl rfl (r_pkF (v := .bool _) rfl rfl) ?_
              refine s_run rfl rfl (r_mv (v := .bool _) rfl) ?_
              refine s_run rfl (g_on 44 (by kernel_rfl) rfl) (r_mv (v := .int _ _) rfl) ?_
              refine s_run rfl (g_on 44 (by kernel_rfl) rfl) (r_mv (v := .int _ _) rfl) ?_
              refine s_run rfl (g_on 44 (by kernel_rfl) rfl) (r_add rfl rfl (wU (by omega))) ?_
              refine s_run rfl (g_on 44 (by kernel_rfl) rfl) (r_eqlF rfl rfl (by omega)) ?_
              refine s_run rfl rfl (r_pkF (v := .bool _) rfl rfl) ?_
              refine s_run rfl rfl (r_mv (v := .bool _) rfl) ?_
              refine s_run rfl (g_on 50 (by kernel_rfl) rfl) (r_mv (v := .slice _ _ _) rfl) ?_
              refine s_run rfl (g_on 50 (by kernel_rfl) rfl) (r_len rfl Try.underlying25) ?_
              refine s_run rfl (g_on 50 (by kernel_rfl) rfl) (r_gtrT rfl rfl (by omega)) ?_
              refine s_run rfl (g_on 50 (by kernel_rfl) rfl) (r_mv (v := .bool _) rfl) ?_
              refine s_run rfl (g_on 54 (by kernel_rfl) rfl) (r_mv (v := .int _ _) rfl) ?_
              refine s_run rfl (g_on 54 (by kernel_rfl) rfl) (r_eqlF rfl rfl (by omega)) ?_
              refine s_run rfl (g_on 50 (by kernel_rfl) rfl) (r_pkT (v := .bool _) rfl rfl) ?_
              refine s_run rfl rfl (r_pkF (v := .bool _) rfl rfl) ?_
              refine s_run rfl rfl (r_mv (v := .bool _) rfl) ?_
              refine s_run rfl (g_on 59 (by kernel_rfl) rfl) (r_mv (v := .int _ _) rfl) ?_
              refine s_run rfl (g_on 59 (by kernel_rfl) rfl) (r_eqlT rfl rfl (by omega)) ?_
              refine s_run rfl (g_on 59 (by kernel_rfl) rfl) (r_mv (v := .bool _) rfl) ?_
              refine s_run rfl (g_on 62 (by kernel_rfl) rfl) (r_mv (v := .int _ _) rfl) ?_
              refine s_run rfl (g_on 62 (by kernel_rfl) rfl) (r_mv (v := .int _ _) rfl) ?_
              refine s_run rfl (g_on 62 (by kernel_rfl) rfl) (r_neqF rfl rfl (by omega)) ?_
              refine s_run rfl (g_on 59 (by kernel_rfl) rfl) (r_pkT (v := .bool _) rfl rfl) ?_
              refine s_run rfl rfl (r_pkF (v := .bool _) rfl rfl) ?_
              refine k_nil ?_
              refine k_met ?_
              exact ⟨rfl, rfl, rfl, rfl, rfl, rfl, H⟩
            · have hbd : Im.bad zz mm (N - out.length) out.length = true := decide_eq_true (by omega)
              rw [hbd]
              refine k_rg ?_
              refine s_run rfl rfl (r_mv (v := .int _ _) rfl) ?_
              refine s_run rfl rfl (r_mv (v := .int _ _) rfl) ?_
              refine s_run rfl rfl (r_gtrF rfl rfl (by omega)) ?_
              refine s_run rfl rfl (r_mv (v := .bool _) rfl) ?_
              refine s_run rfl (g_on 37 (by kernel_rfl) rfl) (r_mv (v := .int _ _) rfl) ?_
              refine s_run rfl (g_on 37 (by kernel_rfl) rfl) (r_mv (v := .int _ _) rfl) ?_
              refine s_run rfl (g_on 37 (by kernel_rfl) rfl) (r_mv (v := .int _ _) rfl) ?_
              refine s_run rfl (g_on 37 (by kernel_rfl) rfl) (r_sub rfl rfl (wU (by omega))) ?_
              refine s_run rfl (g_on 37 (by kernel_rfl) rfl) (r_gtrF rfl rfl (by omega)) ?_
              refine s_run rfl rfl (r_pkF (v := .bool _) rfl rfl) ?_
              refine s_run rfl rfl (r_mv (v := .bool _) rfl) ?_
              refine s_run rfl (g_on 44 (by kernel_rfl) rfl) (r_mv (v := .int _ _) rfl) ?_
              refine s_run rfl (g_on 44 (by kernel_rfl) rfl) (r_mv (v := .int _ _) rfl) ?_
              refine s_run rfl (g_on 44 (by kernel_rfl) rfl) (r_add rfl rfl (wU (by omega))) ?_
              refine s_run rfl (g_on 44 (by kernel_rfl) rfl) (r_eqlF rfl rfl (by omega)) ?_
              refine s_run rfl rfl (r_pkF (v := .bool _) rfl rfl) ?_
              refine s_run rfl rfl (r_mv (v := .bool _) rfl) ?_
              refine s_run rfl (g_on 50 (by kernel_rfl) rfl) (r_mv (v := .slice _ _ _) rfl) ?_
              refine s_run rfl (g_on 50 (by kernel_rfl) rfl) (r_len rfl Try.underlying25) ?_
              refine s_run rfl (g_on 50 (by kernel_rfl) rfl) (r_gtrT rfl rfl (by omega)) ?_
              refine s_run rfl (g_on 50 (by kernel_rfl) rfl) (r_mv (v := .bool _) rfl) ?_
              refine s_run rfl (g_on 54 (by kernel_rfl) rfl) (r_mv (v := .int _ _) rfl) ?_
              refine s_run rfl (g_on 54 (by kernel_rfl) rfl) (r_eqlF rfl rfl (by omega)) ?_
              refine s_run rfl (g_on 50 (by kernel_rfl) rfl) (r_pkT (v := .bool _) rfl rfl) ?_
              refine s_run rfl rfl (r_pkF (v := .bool _) rfl rfl) ?_
              refine s_run rfl rfl (r_mv (v := .bool _) rfl) ?_
              refine s_run rfl (g_on 59 (by kernel_rfl) rfl) (r_mv (v := .int _ _) rfl) ?_
              refine s_run rfl (g_on 59 (by kernel_rfl) rfl) (r_eqlT rfl rfl (by omega)) ?_
              refine s_run rfl (g_on 59 (by kernel_rfl) rfl) (r_mv (v := .bool _) rfl) ?_
              refine s_run rfl (g_on 62 (by kernel_rfl) rfl) (r_mv (v := .int _ _) rfl) ?_
              refine s_run rfl (g_on 62 (by kernel_rfl) rfl) (r_mv (v := .int _ _) rfl) ?_
              refine s_run rfl (g_on 62 (by kernel_rfl) rfl) (r_neqT rfl rfl (by omega)) ?_
              refine s_run rfl (g_on 59 (by kernel_rfl) rfl) (r_pkT (v := .bool _) rfl rfl) ?_
              refine s_run rfl rfl (r_pkF (v := .bool _) rfl rfl) ?_
              refine k_nil ?_
              refine k_met ?_
              exact ⟨rfl, rfl, rfl, rfl, rfl, rfl, H⟩
          · have hbd : Im.bad zz mm (N - out.length) out.length = false := decide_eq_false (by omega)
            rw [hbd]
            refine k_rg ?_
            refine s_run rfl rfl (r_mv (v := .int _ _) rfl) ?_
            refine s_run rfl rfl (r_mv (v := .int _ _) rfl) ?_
            refine s_run rfl rfl (r_gtrF rfl rfl (by omega)) ?_
            refine s_run rfl rfl (r_mv (v := .bool _) rfl) ?_
            refine s_run rfl (g_on 37 (by kernel_rfl) rfl) (r_mv (v := .int _ _) rfl) ?_
            refine s_run rfl (g_on 37 (by kernel_rfl) rfl) (r_mv (v := .int _ _) rfl) ?_
            refine s_run rfl (g_on 37 (by kernel_rfl) rfl) (r_mv (v := .int _ _) rfl) ?_
            refine s_run rfl (g_on 37 (by kernel_rfl) rfl) (r_sub rfl rfl (wU (by omega))) ?_
            refine s_run rfl (g_on 37 (by kernel_rfl) rfl) (r_gtrF rfl rfl (by omega)) ?_
            refine s_run rfl rfl (r_pkF (v := .bool _) rfl rfl) ?_
            refine s_run rfl rfl (r_mv (v := .bool _) rfl) ?_
            refine s_run rfl (g_on 44 (by kernel_rfl) rfl) (r_mv (v := .int _ _) rfl) ?_
            refine s_run rfl (g_on 44 (by kernel_rfl) rfl) (r_mv (v := .int _ _) rfl) ?_
            refine s_run rfl (g_on 44 (by kernel_rfl) rfl) (r_add rfl rfl (wU (by omega))) ?_
            refine s_run rfl (g_on 44 (by kernel_rfl) rfl) (r_eqlF rfl rfl (by omega)) ?_
            refine s_run rfl rfl (r_pkF (v := .bool _) rfl rfl) ?_
            refine s_run rfl rfl (r_mv (v := .bool _) rfl) ?_
            refine s_run rfl (g_on 50 (by kernel_rfl) rfl) (r_mv (v := .slice _ _ _) rfl) ?_
            refine s_run rfl (g_on 50 (by kernel_rfl) rfl) (r_len rfl Try.underlying25) ?_
            refine s_run rfl (g_on 50 (by kernel_rfl) rfl) (r_gtrT rfl rfl (by omega)) ?_
            refine s_run rfl (g_on 50 (by kernel_rfl) rfl) (r_mv (v := .bool _) rfl) ?_
            refine s_run rfl (g_on 54 (by kernel_rfl) rfl) (r_mv (v := .int _ _) rfl) ?_
            refine s_run rfl (g_on 54 (by kernel_rfl) rfl) (r_eqlF rfl rfl (by omega)) ?_
            refine s_run rfl (g_on 50 (by kernel_rfl) rfl) (r_pkT (v := .bool _) rfl rfl) ?_
            refine s_run rfl rfl (r_pkF (v := .bool _) rfl rfl) ?_
            refine s_run rfl rfl (r_mv (v := .bool _) rfl) ?_
            refine s_run rfl (g_on 59 (by kernel_rfl) rfl) (r_mv (v := .int _ _) rfl) ?_
            refine s_run rfl (g_on 59 (by kernel_rfl) rfl) (r_eqlF rfl rfl (by omega)) ?_
            refine s_run rfl (g_on 59 (by kernel_rfl) rfl) (r_mv (v := .bool _) rfl) ?_
            refine s_off rfl (g_off 62 (by kernel_rfl) rfl rfl) ?_
            refine s_off rfl (g_off 62 (by kernel_rfl) rfl rfl) ?_
            refine s_off rfl (g_off 62 (by kernel_rfl) rfl rfl) ?_
            refine s_run rfl (g_on 59 (by kernel_rfl) rfl) (r_pkF (v := .bool _) rfl rfl) ?_
            refine s_run rfl rfl (r_pkF (v := .bool _) rfl rfl) ?_
            refine k_nil ?_
            refine k_met ?_
            exact ⟨rfl, rfl, rfl, rfl, rfl, rfl, H⟩
        by_cases k6 : mm = 0
        · by_cases k7 : (zz : Int) = N - out.length
          · have hbd : Im.bad zz mm (N - out.length) out.length = false := decide_eq_false (by omega)
            rw [hbd]
            refine k_rg ?_
            refine s_run rfl rfl (r_mv (v := .int _ _) rfl) ?_
            refine s_run rfl rfl (r_mv (v := .int _ _) rfl) ?_
            refine s_run rfl rfl (r_gtrF rfl rfl (by omega)) ?_
            refine s_run rfl rfl (r_mv (v := .bool _) rfl) ?_
            refine s_run rfl (g_on 37 (by kernel_rfl) rfl) (r_mv (v := .int _ _) rfl) ?_
            refine s_run rfl (g_on 37 (by kernel_rfl) rfl) (r_mv (v := .int _ _) rfl) ?_
            refine s_run rfl (g_on 37 (by kernel_rfl) rfl) (r_mv (v := .int _ _) rfl) ?_
            refine s_run rfl (g_on 37 (by kernel_rfl) rfl) (r_sub rfl rfl (wU (by omega))) ?_
            refine s_run rfl (g_on 37 (by kernel_rfl) rfl) (r_gtrF rfl rfl (by omega)) ?_
            refine s_run rfl rfl (r_pkF (v := .bool _) rfl rfl) ?_
            refine s_run rfl rfl (r_mv (v := .bool _) rfl) ?_
            refine s_run rfl (g_on 44 (by kernel_rfl) rfl) (r_mv (v := .int _ _) rfl) ?_
            refine s_run rfl (g_on 44 (by kernel_rfl) rfl) (r_mv (v := .int _ _) rfl) ?_
            refine s_run rfl (g_on 44 (by kernel_rfl) rfl) (r_add rfl rfl (wU (by omega))) ?_
            refine s_run rfl (g_on 44 (by kernel_rfl) rfl) (r_eqlF rfl rfl (by omega)) ?_
            refine s_run rfl rfl (r_pkF (v := .bool _) rfl rfl) ?_
            refine s_run rfl rfl (r_mv (v := .bool _) rfl) ?_
            refine s_run rfl (g_on 50 (by kernel_rfl) rfl) (r_mv (v := .slice _ _ _) rfl) ?_
            refine s_run rfl (g_on 50 (by kernel_rfl) rfl) (r_len rfl Try.underlying25) ?_
            refine s_run rfl (g_on 50 (by kernel_rfl) rfl) (r_gtrF rfl rfl (by omega)) ?_
            refine s_run rfl (g_on 50 (by kernel_rfl) rfl) (r_mv (v := .bool _) rfl) ?_
            refine s_off rfl (g_off 54 (by kernel_rfl) rfl rfl) ?_
            refine s_off rfl (g_off 54 (by kernel_rfl) rfl rfl) ?_
            refine s_run rfl (g_on 50 (by kernel_rfl) rfl) (r_pkF (v := .bool _) rfl rfl) ?_
            refine s_run rfl rfl (r_pkF (v := .bool _) rfl rfl) ?_
            refine s_run rfl rfl (r_mv (v := .bool _) rfl) ?_
            refine s_run rfl (g_on 59 (by kernel_rfl) rfl) (r_mv (v := .int _ _) rfl) ?_
            refine s_run rfl (g_on 59 (by kernel_rfl) rfl) (r_eqlT rfl rfl (by omega)) ?_
            refine s_run rfl (g_on 59 (by kernel_rfl) rfl) (r_mv (v := .bool _) rfl) ?_
            refine s_run rfl (g_on 62 (by kernel_rfl) rfl) (r_mv (v := .int _ _) rfl) ?_
            refine s_run rfl (g_on 62 (by kernel_rfl) rfl) (r_mv (v := .int _ _) rfl) ?_
            refine s_run rfl (g_on 62 (by kernel_rfl) rfl) (r_neqF rfl rfl (by omega)) ?_
            refine s_run rfl (g_on 59 (by kernel_rfl) rfl) (r_pkT (v := .bool _) rfl rfl) ?_
            refine s_run rfl rfl (r_pkF (v := .bool _) rfl rfl) ?_
            refine k_nil ?_
            refine k_met ?_
            exact ⟨rfl, rfl, rfl, rfl, rfl, rfl, H⟩
          · have hbd : Im.bad zz mm (N - out.length) out.length = true := decide_eq_true (by omega)
            rw [hbd]
            refine k_rg ?_
            refine s_run rfl rfl (r_mv (v := .int _ _) rfl) ?_
            refine s_run rfl rfl (r_mv (v := .int _ _) rfl) ?_
            refine s_run rfl rfl (r_gtrF rfl rfl (by omega)) ?_
            refine s_run rfl rfl (r_mv (v := .bool _) rfl) ?_
            refine s_run rfl (g_on 37 (by kernel_rfl) rfl) (r_mv (v := .int _ _) rfl) ?_
            refine s_run rfl (g_on 37 (by kernel_rfl) rfl) (r_mv (v := .int _ _) rfl) ?_
            refine s_run rfl (g_on 37 (by kernel_rfl) rfl) (r_mv (v := .int _ _) rfl) ?_
            refine s_run rfl (g_on 37 (by kernel_rfl) rfl) (r_sub rfl rfl (wU (by omega))) ?_
            refine s_run rfl (g_on 37 (by kernel_rfl) rfl) (r_gtrF rfl rfl (by omega)) ?_
            refine s_run rfl rfl (r_pkF (v := .bool _) rfl rfl) ?_
            refine s_run rfl rfl (r_mv (v := .bool _) rfl) ?_
            refine s_run rfl (g_on 44 (by kernel_rfl) rfl) (r_mv (v := .int _ _) rfl) ?_
            refine s_run rfl (g_on 44 (by kernel_rfl) rfl) (r_mv (v := .int _ _) rfl) ?_
            refine s_run rfl (g_on 44 (by kernel_rfl) rfl) (r_add rfl rfl (wU (by omega))) ?_
            refine s_run rfl (g_on 44 (by kernel_rfl) rfl) (r_eqlF rfl rfl (by omega)) ?_
            refine s_run rfl rfl (r_pkF (v := .bool _) rfl rfl) ?_
            refine s_run rfl rfl (r_mv (v := .bool _) rfl) ?_
            refine s_run rfl (g_on 50 (by kernel_rfl) rfl) (r_mv (v := .slice _ _ _) rfl) ?_
            refine s_run rfl (g_on 50 (by kernel_rfl) rfl) (r_len rfl Try.underlying25) ?_
            refine s_run rfl (g_on 50 (by kernel_rfl) rfl) (r_gtrF rfl rfl (by omega)) ?_
            refine s_run rfl (g_on 50 (by kernel_rfl) rfl) (r_mv (v := .bool _) rfl) ?_
            refine s_off rfl (g_off 54 (by kernel_rfl) rfl rfl) ?_
            refine s_off rfl (g_off 54 (by kernel_rfl) rfl rfl) ?_
            refine s_run rfl (g_on 50 (by kernel_rfl) rfl) (r_pkF (v := .bool _) rfl rfl) ?_
            refine s_run rfl rfl (r_pkF (v := .bool _) rfl rfl) ?_
            refine s_run rfl rfl (r_mv (v := .bool _) rfl) ?_
            refine s_run rfl (g_on 59 (by kernel_rfl) rfl) (r_mv (v := .int _ _) rfl) ?_
            refine s_run rfl (g_on 59 (by kernel_rfl) rfl) (r_eqlT rfl rfl (by omega)) ?_
            refine s_run rfl (g_on 59 (by kernel_rfl) rfl) (r_mv (v := .bool _) rfl) ?_
            refine s_run rfl (g_on 62 (by kernel_rfl) rfl) (r_mv (v := .int _ _) rfl) ?_
            refine s_run rfl (g_on 62 (by kernel_rfl) rfl) (r_mv (v := .int _ _) rfl) ?_
            refine s_run rfl (g_on 62 (by kernel_rfl) rfl) (r_neqT rfl rfl (by omega)) ?_
            refine s_run rfl (g_on 59 (by kernel_rfl) rfl) (r_pkT (v := .bool _) rfl rfl) ?_
            refine s_run rfl rfl (r_pkF (v := .bool _) rfl rfl) ?_
            refine k_nil ?_
            refine k_met ?_
            exact ⟨rfl, rfl, rfl, rfl, rfl, rfl, H⟩
        · have hbd : Im.bad zz mm (N - out.length) out.length = false := decide_eq_false (by omega)
          rw [hbd]
          refine k_rg ?_
          refine s_run rfl rfl (r_mv (v := .int _ _) rfl) ?_
          refine s_run rfl rfl (r_mv (v := .int _ _) rfl) ?_
          refine s_run rfl rfl (r_gtrF rfl rfl (by omega)) ?_
          refine s_run rfl rfl (r_mv (v := .bool _) rfl) ?_
          refine s_run rfl (g_on 37 (by kernel_rfl) rfl) (r_mv (v := .int _ _) rfl) ?_
          refine s_run rfl (g_on 37 (by kernel_rfl) rfl) (r_mv (v := .int _ _) rfl) ?_
          refine s_run rfl (g_on 37 (by kernel_rfl) rfl) (r_mv (v := .int _ _) rfl) ?_
          refine s_run rfl (g_on 37 (by kernel_rfl) rfl) (r_sub rfl rfl (wU (by omega))) ?_
          refine s_run rfl (g_on 37 (by kernel_rfl) rfl) (r_gtrF rfl rfl (by omega)) ?_
          refine s_run rfl rfl (r_pkF (v := .bool _) rfl rfl) ?_
          refine s_run rfl rfl (r_mv (v := .bool _) rfl) ?_
          refine s_run rfl (g_on 44 (by kernel_rfl) rfl) (r_mv (v := .int _ _) rfl) ?_
          refine s_run rfl (g_on 44 (by kernel_rfl) rfl) (r_mv (v := .int _ _) rfl) ?_
          refine s_run rfl (g_on 44 (by kernel_rfl) rfl) (r_add rfl rfl (wU (by omega))) ?_
          refine s_run rfl (g_on 44 (by kernel_rfl) rfl) (r_eqlF rfl rfl (by omega)) ?_
          refine s_run rfl rfl (r_pkF (v := .bool _) rfl rfl) ?_
          refine s_run rfl rfl (r_mv (v := .bool _) rfl) ?_
          refine s_run rfl (g_on 50 (by kernel_rfl) rfl) (r_mv (v := .slice _ _ _) rfl) ?_
          refine s_run rfl (g_on 50 (by kernel_rfl) rfl) (r_len rfl Try.underlying25) ?_
          refine s_run rfl (g_on 50 (by kernel_rfl) rfl) (r_gtrF rfl rfl (by omega)) ?_
          refine s_run rfl (g_on 50 (by kernel_rfl) rfl) (r_mv (v := .bool _) rfl) ?_
          refine s_off rfl (g_off 54 (by kernel_rfl) rfl rfl) ?_
          refine s_off rfl (g_off 54 (by kernel_rfl) rfl rfl) ?_
          refine s_run rfl (g_on 50 (by kernel_rfl) rfl) (r_pkF (v := .bool _) rfl rfl) ?_
          refine s_run rfl rfl (r_pkF (v := .bool _) rfl rfl) ?_
          refine s_run rfl rfl (r_mv (v := .bool _) rfl) ?_
          refine s_run rfl (g_on 59 (by kernel_rfl) rfl) (r_mv (v := .int _ _) rfl) ?_
          refine s_run rfl (g_on 59 (by kernel_rfl) rfl) (r_eqlF rfl rfl (by omega)) ?_
          refine s_run rfl (g_on 59 (by kernel_rfl) rfl) (r_mv (v := .bool _) rfl) ?_
          refine s_off rfl (g_off 62 (by kernel_rfl) rfl rfl) ?_
          refine s_off rfl (g_off 62 (by kernel_rfl) rfl rfl) ?_
          refine s_off rfl (g_off 62 (by kernel_rfl) rfl rfl) ?_
          refine s_run rfl (g_on 59 (by kernel_rfl) rfl) (r_pkF (v := .bool _) rfl rfl) ?_
          refine s_run rfl rfl (r_pkF (v := .bool _) rfl rfl) ?_
          refine k_nil ?_
          refine k_met ?_
          exact ⟨rfl, rfl, rfl, rfl, rfl, rfl, H⟩
      · clear H
        rintro f W ⟨f0, f1, f6, f7, f8, f67, H⟩
        by_cases hbd : Im.bad zz mm (N - out.length) out.length = true
        · rw [if_pos hbd] at hR
          rw [hbd] at f67
          obtain ⟨f, rfl⟩ := live6 f0 f1 f6 f7 f8 f67
          clear f0 f1 f6 f7 f8 f67
          subst hR
          refine c_norm ?_
          refine k_t rfl ?_
          refine k_seq ?_
          refine k_rg ?_
          refine s_run rfl rfl (r_as (v := .slice _ _ _) rfl) ?_
          refine s_run rfl rfl (r_as (v := .int _ _) rfl) ?_
          refine k_nil ?_
          refine c_norm ?_
          refine k_ret ?_
          refine c_ret ?_
          refine b_ret ?_
          refine c_ret ?_
          refine b_ret ?_
          refine c_ret ?_
          refine fin2r (v := .slice _ _ _) (v2 := .int _ _) rfl rfl rfl ?_
          exact RdPost.err H _
        · rw [if_neg hbd] at hR
          have hbd2 : Im.bad zz mm (N - out.length) out.length = false := by simpa using hbd
          rw [hbd2] at f67
          obtain ⟨f, rfl⟩ := live6 f0 f1 f6 f7 f8 f67
          clear f0 f1 f6 f7 f8 f67
          have hbd3 := of_decide_eq_false hbd2
          clear hbd hbd2
          by_cases hm : (mm : Int) > (t.length : Int)
          · rw [if_pos hm] at hR
            subst hR
            refine c_norm ?_
            refine k_f rfl ?_
            refine k_skip ?_
            refine c_norm ?_
            refine k_seq ?_
            refine k_seq ?_
            refine k_rg ?_
            refine s_run rfl rfl (r_mv (v := .int _ _) rfl) ?_
            refine s_run rfl rfl (r_mv (v := .slice _ _ _) rfl) ?_
            refine s_run rfl rfl (r_len rfl Try.underlying25) ?_
            refine s_run rfl rfl (r_cv rfl (by kernel_rfl) Try.underlying22 (wU (by omega))) ?_
            refine s_run rfl rfl (r_gtrT rfl rfl (by omega)) ?_
            refine k_nil ?_
            refine c_norm ?_
            refine k_t rfl ?_
            refine k_seq ?_
            refine k_rg ?_
            refine s_run rfl rfl (r_as (v := .slice _ _ _) rfl) ?_
            refine s_run rfl rfl (r_as (v := .int _ _) rfl) ?_
            refine k_nil ?_
            refine c_norm ?_
            refine k_ret ?_
            refine c_ret ?_
            refine b_ret ?_
            refine c_ret ?_
            refine b_ret ?_
            refine c_ret ?_
            refine fin2r (v := .slice _ _ _) (v2 := .int _ _) rfl rfl rfl ?_
            exact RdPost.err H _
          · rw [if_neg hm] at hR
            refine c_norm ?_
            refine k_f rfl ?_
            refine k_skip ?_
            refine c_norm ?_
            refine k_seq ?_
            refine k_seq ?_
            refine k_rg ?_
            refine s_run rfl rfl (r_mv (v := .int _ _) rfl) ?_
            refine s_run rfl rfl (r_mv (v := .slice _ _ _) rfl) ?_
            refine s_run rfl rfl (r_len rfl Try.underlying25) ?_
            refine s_run rfl rfl (r_cv rfl (by kernel_rfl) Try.underlying22 (wU (by omega))) ?_
            refine s_run rfl rfl (r_gtrF rfl rfl (by omega)) ?_
            refine k_nil ?_
            refine c_norm ?_
            refine k_f rfl ?_
            refine k_skip ?_
            refine c_norm ?_
            refine k_seq ?_
            refine k_rg ?_
            refine s_run rfl rfl (r_mv (v := .slice _ _ _) rfl) ?_
            refine s_run rfl rfl (r_mv (v := .int _ _) rfl) ?_
            refine s_apz (enc := (Value.int .u64)) (z := 0) (l := zz) H 0 rfl rfl rfl rfl (by omega) (by omega) Try.underlying25 Try.underlying22 inf22 rfl ?_
            intro _ _ _ H'; simp only [List.set_cons_zero, List.set_cons_succ, List.take_succ_cons, List.take_zero, List.drop_succ_cons, List.drop_zero, List.cons_append, List.nil_append, List.append_nil, List.length_cons, List.length_nil, Nat.reduceAdd] at H'; clear H; have H := H'; clear H'
            refine s_run rfl rfl (r_as (v := .slice _ _ _) rfl) ?_
            refine k_nil ?_
            refine c_norm ?_
            refine k_seq ?_
            refine k_seq ?_
            refine k_rg ?_
            refine s_run rfl rfl (r_mv (v := .slice _ _ _) rfl) ?_
            refine s_run rfl rfl (r_mv (v := .int _ _) rfl) ?_
            refine s_run rfl rfl (r_shi (j := mm) rfl rfl rfl (by omega) Try.underlying25 sz22) ?_
            refine s_run rfl rfl (r_len rfl Try.underlying25) ?_
            refine s_run rfl rfl (r_mv (v := .int _ _) rfl) ?_
            refine k_nil ?_
            refine c_norm ?_
            refine k_b ?_
            refine k_loop (fun z f W => ∃ (k : Nat) (A3 : Option Addr) (c3 : Nat), k ≤ mm ∧ z = mm - k ∧ Im.noZero (t.take k) = true ∧ f 0 = .slice (some ⟨b, o2, none⟩) t.length (c - 2) ∧ f 1 = .int .i64 N ∧ f 6 = .slice A3 (out.length + zz + k) c3 ∧ f 8 = .int .u64 mm ∧ f 78 = .slice (some ⟨b, o2, none⟩) mm (c - 2) ∧ f 79 = .int .i64 mm ∧ f 80 = .int .i64 k ∧ Heap w [] [ownN 1 (.slice A3 (out.length + zz + k) c3) (out.length + zz + k) ((out ++ List.replicate zz 0 ++ t.take k).map (Value.int .u64)) 22] W) mm ⟨0, _, _, by omega, rfl, rfl, rfl, rfl, rfl, rfl, rfl, rfl, rfl, by simpa using H⟩ ?_
            clear H
            rintro z f W ⟨k, A3, c3, hk, rfl, hnz, f0, f1, f6, f8, f78, f79, f80, H⟩
            obtain ⟨f, rfl⟩ := lv7 f0 f1 f6 f8 f78 f79 f80
            clear f0 f1 f6 f8 f78 f79 f80
            by_cases hkm : k < mm
            · obtain ⟨x, hx⟩ : ∃ x, t[k]? = some x := ⟨_, List.getElem?_eq_getElem (by omega)⟩
              have hcx := hr2 k x hx
              by_cases hx0 : x = 0
              · subst hx0
                rw [if_neg (noZero_no t k mm hx hkm)] at hR
                subst hR
                refine k_seq ?_
                refine k_rg ?_
                refine s_run rfl rfl (r_lssT rfl rfl (by omega)) ?_
                refine k_nil ?_
                refine c_norm ?_
                refine k_seq ?_
                refine k_t rfl ?_
                refine k_skip ?_
                refine c_norm ?_
                refine k_seq ?_
                refine k_b ?_
                refine k_seq ?_
                refine k_rg ?_
                refine s_run rfl rfl (r_ix1o rfl rfl rfl (by omega) Try.underlying25 sz22) ?_
                refine s_run rfl rfl (r_lr H (i := o2 + k) rfl hcx (by simp) ag22) ?_
                refine s_run rfl rfl (r_as (v := .int _ _) rfl) ?_
                refine k_nil ?_
                refine c_norm ?_
                refine k_seq ?_
                refine k_seq ?_
                refine k_rg ?_
                refine s_run rfl rfl (r_mv (v := .int _ _) rfl) ?_
                refine s_run rfl rfl (r_eqlT rfl rfl (by omega)) ?_
                refine k_nil ?_
                refine c_norm ?_
                refine k_t rfl ?_
                refine k_seq ?_
                refine k_rg ?_
                refine s_run rfl rfl (r_as (v := .slice _ _ _) rfl) ?_
                refine s_run rfl rfl (r_as (v := .int _ _) rfl) ?_
                refine k_nil ?_
                refine c_norm ?_
                refine k_ret ?_
                refine c_ret ?_
                refine b_ret ?_
                refine c_ret ?_
                refine c_ret ?_
                refine b_ret ?_
                refine c_ret ?_
                refine b_ret ?_
                refine c_ret ?_
                refine b_ret ?_
                refine c_ret ?_
                refine fin2r (v := .slice _ _ _) (v2 := .int _ _) rfl rfl rfl ?_
                exact RdPost.err H _
              · refine k_seq ?_
                refine k_rg ?_
                refine s_run rfl rfl (r_lssT rfl rfl (by omega)) ?_
                refine k_nil ?_
                refine c_norm ?_
                refine k_seq ?_
                refine k_t rfl ?_
                refine k_skip ?_
                refine c_norm ?_
                refine k_seq ?_
                refine k_b ?_
                refine k_seq ?_
                refine k_rg ?_
                refine s_run rfl rfl (r_ix1o rfl rfl rfl (by omega) Try.underlying25 sz22) ?_
                refine s_run rfl rfl (r_lr H (i := o2 + k) rfl hcx (by simp) ag22) ?_
                refine s_run rfl rfl (r_as (v := .int _ _) rfl) ?_
                refine k_nil ?_
                refine c_norm ?_
                refine k_seq ?_
                refine k_seq ?_
                refine k_rg ?_
                refine s_run rfl rfl (r_mv (v := .int _ _) rfl) ?_
                refine s_run rfl rfl (r_eqlF rfl rfl (by omega)) ?_
                refine k_nil ?_
                refine c_norm ?_
                refine k_f rfl ?_
                refine k_skip ?_
                refine c_norm ?_
                refine k_rg ?_
                refine s_run rfl rfl (r_mv (v := .slice _ _ _) rfl) ?_
                refine s_run rfl rfl (r_mv (v := .int _ _) rfl) ?_
                refine s_app1 (enc := (Value.int .u64)) H 0 rfl rfl rfl rfl rfl rfl rfl (by omega) Try.underlying25 inf22 rfl ?_
                intro _ An cn _ H'; simp only [List.set_cons_zero, List.set_cons_succ, List.take_succ_cons, List.take_zero, List.drop_succ_cons, List.drop_zero, List.cons_append, List.nil_append, List.append_nil, List.length_cons, List.length_nil, Nat.reduceAdd] at H'; clear H; have H := H'; clear H'
                refine s_run rfl rfl (r_as (v := .slice _ _ _) rfl) ?_
                refine k_nil ?_
                refine b_norm ?_
                refine c_norm ?_
                refine k_rg ?_
                refine s_run rfl rfl (r_add rfl rfl (wI (by omega))) ?_
                refine s_run rfl rfl (r_mv (v := .int _ _) rfl) ?_
                refine k_nil ?_
                refine c_round ?_
                rw [List.append_assoc, take_snoc hx] at H
                refine ⟨_, _, ?_, rfl, k + 1, _, _, by omega, rfl, noZero_snoc t k x hx hnz hx0, rfl, rfl, rfl, rfl, rfl, rfl, rfl, H⟩
                omega
            · obtain rfl : k = mm := by omega
              rw [if_pos hnz] at hR
              obtain ⟨o3, ho3, hr3⟩ := reads_drop (c := c - 2) hr2 k (by omega) (by omega)
              have hol : (out ++ List.replicate zz 0 ++ t.take k).length = out.length + zz + k := by
                simp only [List.length_append, List.length_replicate, List.length_take]; omega
              refine k_seq ?_
              refine k_rg ?_
              refine s_run rfl rfl (r_lssF rfl rfl (by omega)) ?_
              refine k_nil ?_
              refine c_norm ?_
              refine k_seq ?_
              refine k_f rfl ?_
              refine k_exit ?_
              refine c_exit ?_
              refine c_exit ?_
              refine b_hit ?_
              refine c_norm ?_
              refine k_rg ?_
              refine s_run rfl rfl (r_mv (v := .slice _ _ _) rfl) ?_
              refine s_run rfl rfl (r_mv (v := .int _ _) rfl) ?_
              refine s_run rfl rfl (r_slo' (i := k) (o2 := o3) (l2 := (t.drop k).length) (c2 := c - 2 - k) rfl rfl rfl (by omega) ho3 (by rw [List.length_drop]) rfl Try.underlying25 sz22) ?_
              refine s_run rfl rfl (r_as (v := .slice _ _ _) rfl) ?_
              refine k_nil ?_
              refine b_norm ?_
              refine c_round ?_
              rw [← hol] at H
              refine ⟨fu, _, ?_, rfl, t.drop k, out ++ List.replicate zz 0 ++ t.take k, o3, c - 2 - k, A3, c3, by omega, by omega, hR, rfl, by rw [List.length_drop]; omega, by omega, by rw [List.length_drop]; omega, hUt.drop k, hr3, rfl, ?_, H⟩
              · omega
              · rw [hol]; rfl
  · rw [read_end fu wl N out (by omega)] at hR
    by_cases hw : wl.length > 0
    · rw [if_pos hw] at hR
      subst hR
      refine k_seq ?_
      refine k_seq ?_
      refine k_rg ?_
      refine s_run rfl rfl (r_mv (v := .slice _ _ _) rfl) ?_
      refine s_run rfl rfl (r_len rfl Try.underlying25) ?_
      refine s_run rfl rfl (r_mv (v := .int _ _) rfl) ?_
      refine s_run rfl rfl (r_lssF rfl rfl (by omega)) ?_
      refine k_nil ?_
      refine c_norm ?_
      refine k_f rfl ?_
      refine k_exit ?_
      refine c_exit ?_
      refine c_exit ?_
      refine b_hit ?_
      refine c_norm ?_
      refine k_seq ?_
      refine k_seq ?_
      refine k_rg ?_
      refine s_run rfl rfl (r_mv (v := .slice _ _ _) rfl) ?_
      refine s_run rfl rfl (r_len rfl Try.underlying25) ?_
      refine s_run rfl rfl (r_gtrT rfl rfl (by omega)) ?_
      refine k_nil ?_
      refine c_norm ?_
      refine k_t rfl ?_
      refine k_seq ?_
      refine k_rg ?_
      refine s_run rfl rfl (r_as (v := .slice _ _ _) rfl) ?_
      refine s_run rfl rfl (r_as (v := .int _ _) rfl) ?_
      refine k_nil ?_
      refine c_norm ?_
      refine k_ret ?_
      refine c_ret ?_
      refine fin2r (v := .slice _ _ _) (v2 := .int _ _) rfl rfl rfl ?_
      exact RdPost.err H _
    · rw [if_neg hw] at hR
      subst hR
      refine k_seq ?_
      refine k_seq ?_
      refine k_rg ?_
      refine s_run rfl rfl (r_mv (v := .slice _ _ _) rfl) ?_
      refine s_run rfl rfl (r_len rfl Try.underlying25) ?_
      refine s_run rfl rfl (r_mv (v := .int _ _) rfl) ?_
      refine s_run rfl rfl (r_lssF rfl rfl (by omega)) ?_
      refine k_nil ?_
      refine c_norm ?_
      refine k_f rfl ?_
      refine k_exit ?_
      refine c_exit ?_
      refine c_exit ?_
      refine b_hit ?_
      refine c_norm ?_
      refine k_seq ?_
      refine k_seq ?_
      refine k_rg ?_
      refine s_run rfl rfl (r_mv (v := .slice _ _ _) rfl) ?_
      refine s_run rfl rfl (r_len rfl Try.underlying25) ?_
      refine s_run rfl rfl (r_gtrF rfl rfl (by omega)) ?_
      refine k_nil ?_
      refine c_norm ?_
      refine k_f rfl ?_
      refine k_skip ?_
      refine c_norm ?_
      refine k_seq ?_
      refine k_rg ?_
      refine s_run rfl rfl (r_mv (v := .slice _ _ _) rfl) ?_
      refine s_run rfl rfl (r_as (v := .slice _ _ _) rfl) ?_
      refine s_run rfl rfl (r_as (v := .int _ _) rfl) ?_
      refine k_nil ?_
      refine c_norm ?_
      refine k_ret ?_
      refine fin2r (v := .slice _ _ _) (v2 := .int _ _) rfl rfl rfl ?_
      exact ⟨A2, c2, rfl, H⟩
end Go.Proofs.Ytmekhdclnhhhbaa
end
