/- The text of a row of bytes that the call made. -/
import Derived.Test.YtchobkabndnhoaaExp2
import Derived.Laws.BytesArg
import Derived.Deep.RegionHeld3
namespace Go.Proofs.Ytchobkabndnhoaa
open Go.RowKit
set_option linter.unusedVariables false
theorem RowAt.str {W : World} {A : Option Addr} {n c B : Nat} {xs : List Int} (h : RowAt W B A n (xs.map (Value.int .u8))) :
    (convert 23 9 (.slice A n c)).run Try.prog W = .ok (.string (strOfNums xs)) W := by
  have hl : xs.length = n := by simpa using h.1
  rcases Nat.eq_zero_or_pos n with h0 | h0
  · subst h0
    obtain rfl : xs = [] := List.eq_nil_of_length_eq_zero hl
    cases A with
    | none => exact run_convert_bytes_nil W _ _ Try.underlying23 Try.underlying5 _ _ _ Try.underlying9
    | some a =>
      rw [run_convert_bytes_string W _ _ _ _ 0 c Try.underlying23 Try.underlying5 Try.underlying9, run_bytesToString W _ 0 c [] (by rfl), foldl_push_bytes]
      simp [strOfNums, ByteArray.empty, ByteArray.emptyWithCapacity]
      rfl
  · obtain ⟨b, off, rfl, hb, hc⟩ := h.2 h0
    refine run_convert_bytes_arg W _ _ Try.underlying23 Try.underlying5 b off n c xs hl ?_ _ Try.underlying9
    intro i hi
    refine hc i _ ?_
    rw [List.getElem?_map, List.getD_eq_getElem?_getD, List.getElem?_eq_getElem (by omega)]
    rfl
/-- v reads as this text, in each later world -/
def Txt (W : World) (v : Value) (xs : List Int) : Prop := ∀ W' : World, Below W.heap.size W W' → (convert 23 9 v).run Try.prog W' = .ok (.string (strOfNums xs)) W'
theorem Txt.of_row {W : World} {A : Option Addr} {n c : Nat} {xs : List Int} (h : RowAt W W.heap.size A n (xs.map (Value.int .u8))) : Txt W (.slice A n c) xs :=
  fun W' hb => (h.below hb).str
theorem Txt.of_own {W : World} {base n : Nat} {v : Value} {xs : List Int} (h : W.ownsRow base 5 1 v n (xs.map (Value.int .u8))) : Txt W v xs := by
  obtain ⟨A, c, rfl, _⟩ := own_shape h
  exact Txt.of_row (RowAt.of_own h)
theorem Txt.now {W : World} {v : Value} {xs : List Int} (h : Txt W v xs) : (convert 23 9 v).run Try.prog W = .ok (.string (strOfNums xs)) W := h W (Below.refl _ _)
theorem Txt.later {W W' : World} {v : Value} {xs : List Int} (h : Txt W v xs) (hb : Below W.heap.size W W') : Txt W' v xs :=
  fun W2 h2 => h W2 (hb.trans (h2.mono hb.size))
end Go.Proofs.Ytchobkabndnhoaa
