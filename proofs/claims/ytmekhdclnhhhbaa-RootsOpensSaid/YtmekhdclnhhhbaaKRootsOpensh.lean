/- Parts of the proof, one behind the other. -/
import Derived.Test.YtmekhdclnhhhbaaKRootsOpensg
set_option linter.unusedSimpArgs false
set_option linter.unusedVariables false
section
namespace Go.Proofs.Ytmekhdclnhhhbaa
open Go.RowKit
/-- k words of a device from a on -/
def getsA (l : List Int) (a : Nat) : Nat → List Int
 | 0 => []
 | k + 1 => getsA l a k ++ [Nv.get l ((a : Int) + (k : Int))]
theorem getsA_len (l : List Int) (a : Nat) : ∀ k, (getsA l a k).length = k
 | 0 => rfl
 | k + 1 => by rw [getsA, List.length_append, getsA_len l a k]; rfl
theorem getsA_set (l : List Int) (a k : Nat) (hk : k < 16) : (getsA l a k ++ List.replicate (16 - k) 0).set k (Nv.get l ((a : Int) + (k : Int))) = getsA l a (k + 1) ++ List.replicate (16 - (k + 1)) 0 := by
 rw [List.set_append, if_neg (by rw [getsA_len]; omega), getsA_len, Nat.sub_self, show 16 - k = (16 - (k + 1)) + 1 by omega, List.replicate_succ, List.set_cons_zero, getsA, List.append_assoc]
 rfl
theorem get_U {l : List Int} (h : Im.U l) (a : Int) : 0 ≤ Nv.get l a ∧ Nv.get l a ≤ 18446744073709551615 := by
 unfold Nv.get
 split
 ·rename_i hh
  rw [List.getD_eq_getElem?_getD, List.getElem?_eq_getElem (by omega)]
  exact h _ (List.getElem_mem _)
 ·omega
theorem getsA_U {l : List Int} (h : Im.U l) (a : Nat) : ∀ k, Im.U (getsA l a k)
 | 0 => fun x hx => by cases hx
 | k + 1 => fun x hx => by
  rw [getsA] at hx
  rcases List.mem_append.1 hx with hx | hx
  ·exact getsA_U h a k x hx
  ·rw [List.mem_singleton.1 hx]; exact get_U h _
section
variable {P : Program} {n : Nat} {f : Nat → Value} {W : World} {dst : Option Tmp} {ty : TypeId} {pos : String} {af : Array Edge} {g : Option (Nat × Bool)} {x y : Operand} {k : IntKind} {a b c : Int} {t t2 : TypeId}
theorem r_bits_and (hx : ev n f x = .int k a) (hy : ev n f y = .int k b) (hr : k.wrap (((a % 2 ^ k.bits).toNat &&& (b % 2 ^ k.bits).toNat : Nat) : Int) = c) : (execOp (ev n f) ⟨dst, .binOp .and t x y t2, ty, pos, af, g⟩).run P W = .ok (.value (.int k c)) W := by
 simp [execOp, hx, hy, eqGuard, binOp, Op.intBits, hr]
end
theorem tSlotAt (i : Nat) (w : World) (hi : i = 0 ∨ i = 1) :
  Calls Try.prog 119 [.int .i64 i].toArray w fun e w' => e = .returned (.int .i64 ((64 + 64 * i : Nat) : Int)) ∧ Only [] w w' := by
 have H := Heap.nil w
 rcases hi with rfl | rfl
 ·refine k_in (N := 7) Try.func119 rfl rfl rfl ?_
  refine k_sg ?_
  refine s_run rfl rfl (rai rfl) ?_
  refine k_nc ?_
  refine k_sg ?_
  refine s_run rfl rfl (rmi rfl) ?_
  refine s_run rfl rfl (r_bits_and (c := 0) rfl rfl (by kernel_rfl)) ?_
  refine s_run rfl rfl (r_mul rfl rfl (wI (by omega))) ?_
  refine s_run rfl rfl (r_add rfl rfl (wI (by omega))) ?_
  refine s_run rfl rfl (rai rfl) ?_
  refine k_nc ?_
  refine k_ret ?_
  refine fin1r (v := .int _ _) rfl rfl ?_
  exact ⟨rfl, H.only⟩
 ·refine k_in (N := 7) Try.func119 rfl rfl rfl ?_
  refine k_sg ?_
  refine s_run rfl rfl (rai rfl) ?_
  refine k_nc ?_
  refine k_sg ?_
  refine s_run rfl rfl (rmi rfl) ?_
  refine s_run rfl rfl (r_bits_and (c := 1) rfl rfl (by kernel_rfl)) ?_
  refine s_run rfl rfl (r_mul rfl rfl (wI (by omega))) ?_
  refine s_run rfl rfl (r_add rfl rfl (wI (by omega))) ?_
  refine s_run rfl rfl (rai rfl) ?_
  refine k_nc ?_
  refine k_ret ?_
  refine fin1r (v := .int _ _) rfl rfl ?_
  exact ⟨rfl, H.only⟩
theorem tRead (g : Geo) (d : Nv.D) (i : Nat) (w : World) (hE : Ents (devL g d) w) (hi : i = 0 ∨ i = 1) :
  Calls Try.prog 106 [ptr g.p, .int .i64 i].toArray w fun e w' => e = .returned (.agg ((getsA d.cache (64 + 64 * i) 16).map (Value.int .u64)).toArray) ∧ Only [] w w' := by
 have HR := Heap.start hE
 have H := Heap.nil w
 have hS := fun w => tSlotAt i w hi
 have hb : 64 + 64 * i ≤ 128 := by omega
 generalize 64 + 64 * i = a at *
 refine k_in (N := 20) Try.func106 rfl rfl rfl ?_
 refine k_sg ?_
 refine s_al H rfl inf99 ?_
 intro p4 _ H'; clear H; have H := H'; clear H'
 refine k_nc ?_
 refine k_sg ?_
 refine s_al H rfl inf99 ?_
 intro p5 _ H'; clear H; have H := H'; clear H'
 refine k_nc ?_
 refine k_seq ?_
 refine k_sg ?_
 refine s_run rfl rfl (rmi rfl) ?_
 refine k_nc ?_
 refine k_b ?_
 refine k_loop (fun z f W => ∃ k : Nat, k ≤ 16 ∧ z = 16 - k ∧ f 0 = ptr g.p ∧ f 1 = .int .i64 i ∧ f 4 = ptr p4 ∧ f 5 = ptr p5 ∧ f 7 = .int .i64 k ∧ Heap w [] [blk p5 ((getsA d.cache a k ++ List.replicate (16 - k) 0).map (Value.int .u64)) 99, blk p4 ((List.replicate 16 0).map (Value.int .u64)) 99] W) 16 ⟨0, by omega, rfl, rfl, rfl, rfl, rfl, rfl, H⟩ ?_
 clear H
 rintro z f W ⟨k, hk, rfl, f0, f1, f4, f5, f7, H⟩
 obtain ⟨f, rfl⟩ := live5 f0 f1 f4 f5 f7
 clear f0 f1 f4 f5 f7
 by_cases hlt : k < 16
 ·obtain ⟨c8, hv8⟩ : ∃ c0, ((getsA d.cache a k ++ List.replicate (16 - k) 0).map (Value.int .u64))[k]? = some c0 := ⟨_, List.getElem?_eq_getElem (by rw [List.length_map, List.length_append, getsA_len, List.length_replicate]; omega)⟩
  refine k_sg ?_
  refine s_run rfl rfl (r_lssT rfl rfl (by omega)) ?_
  refine k_nc ?_
  refine k_seq ?_
  refine k_t rfl ?_
  refine k_skip ?_
  refine c_norm ?_
  refine k_seq ?_
  refine k_b ?_
  refine k_sg ?_
  refine s_run rfl rfl (rmi rfl) ?_
  refine s_run rfl rfl (rai rfl) ?_
  refine k_nc ?_
  refine k_rg ?_
  refine s_run rfl rfl (rmi rfl) ?_
  refine s_run rfl rfl (rmp rfl) ?_
  refine s_run rfl rfl (rmi rfl) ?_
  refine s_call rfl (hS _) (ca119 rfl) ?_
  rintro e W1 ⟨rfl, H'⟩
  refine ⟨_, rfl, ?_⟩
  have H := H.same H'; clear H'
  refine s_run rfl rfl (rmi rfl) ?_
  refine s_run rfl rfl (r_add rfl rfl (wI (by omega))) ?_
  refine s_call rfl (nGet g d ((a : Int) + (k : Int)) _ (HR.same H.only).ents) (ca25 rfl) ?_
  rintro e W1 ⟨rfl, H'⟩
  refine ⟨_, rfl, ?_⟩
  have H := H.same H'; clear H'
  refine s_run rfl rfl (r_ia0 (i := k) rfl rfl (by omega) (by omega) Try.underlying99 sz22) ?_
  refine s_st (u := .int _ _) H 0 rfl rfl rfl rfl hv8 rfl sz22 ?_
  clear H; intro _ H; simp only [jA, jB, jC, jD, jE, jF, jG, jH, jI, jJ, jK, Nat.reduceAdd] at H
  refine k_nil ?_
  refine b_norm ?_
  refine c_norm ?_
  refine k_rg ?_
  refine s_run rfl rfl (r_add rfl rfl (wI (by omega))) ?_
  refine s_run rfl rfl (rmi rfl) ?_
  refine k_nil ?_
  refine c_round ?_
  rw [← List.map_set, getsA_set d.cache a k hlt] at H
  refine ⟨_, _, ?_, rfl, k + 1, by omega, rfl, rfl, rfl, rfl, rfl, rfl, H⟩
  omega
 ·obtain rfl : k = 16 := by omega
  rw [Nat.sub_self, List.replicate_zero, List.append_nil] at H
  have hq16 := getsA_len d.cache a 16
  generalize getsA d.cache a 16 = q at *
  obtain ⟨l0, l1, l2, l3, l4, l5, l6, l7, l8, l9, l10, l11, l12, l13, l14, l15, rfl⟩ := list16 hq16
  refine k_sg ?_
  refine s_run rfl rfl (r_lssF rfl rfl (by omega)) ?_
  refine k_nc ?_
  refine k_seq ?_
  refine k_f rfl ?_
  refine k_exit ?_
  refine c_exit ?_
  refine c_exit ?_
  refine b_hit ?_
  refine c_norm ?_
  refine k_sg ?_
  refine s_run rfl rfl (r_la H 0 rfl rfl rfl ag99 sz99) ?_
  refine s_sw H 1 rfl rfl rfl rfl rfl rfl rfl sz99 ?_
  clear H; intro _ H; simp only [jA, jB, jC, jD, jE, jF, jG, jH, jI, jJ, jK, Nat.reduceAdd] at H
  refine k_nc ?_
  refine k_ret ?_
  refine fx1r rfl (rv_a H 1 rfl rfl rfl ag99 sz99) ?_
  exact ⟨rfl, H.only⟩
end Go.Proofs.Ytmekhdclnhhhbaa
end
