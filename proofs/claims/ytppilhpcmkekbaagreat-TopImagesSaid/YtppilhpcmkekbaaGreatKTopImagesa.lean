/- Parts of the proof. -/
import Derived.Test.YtppilhpcmkekbaaGreatRows
import Derived.WalkKit
import Derived.WalkLawsBesides
import Derived.WalkSpells
import Derived.Laws.BitsAllLaws
import Derived.Lib.Hide
import Derived.ProofKit
import Derived.OpenShut
import Derived.ShutString
import Derived.ChangeOld
import Derived.Below
import Derived.Lib.SmallJoins
import Derived.BigQuiet
import Derived.Outline
import Derived.Deep.QuietTactic
import Derived.Laws.AppendOwnNone
import Derived.ChangeKeysEq
import Derived.Laws.CopyOwn
import Derived.Deep.RegionHeld3
import Derived.Laws.StructEq
set_option linter.unusedSimpArgs false
set_option linter.unusedVariables false
set_option linter.unusedSectionVars false
set_option maxRecDepth 100000
set_option maxHeartbeats 16000000
namespace Go.Proofs.YtppilhpcmkekbaaGreat
open Go.Proofs.Tryz
structure Zq(r:Prop):Prop where o:r
theorem O{α:Sort _}{a:α}:a=a:=rfl
theorem Y{p:Prop}(h:p:=by omega):p:=h
theorem J{p:Prop}(h:p:=by simp):p:=h
abbrev Ar:=@List.getElem?_eq_getElem
abbrev Ba:=@List.getD_eq_getElem?_getD
abbrev A8:=@List.mem_of_getElem?
abbrev Bg:=@Nat.le_refl
abbrev Bo:=@Int.eq_ofNat_of_zero_le
abbrev Bz:=@Int.toNat_natCast
abbrev BA:=@List.getElem?_eq_some_iff
abbrev Bf:=@List.mem_singleton
abbrev BG:=@List.getElem?_map
abbrev BJ:=@List.mem_append
abbrev BQ:=@List.mem_append_left
abbrev BX:=@List.mem_map
abbrev BU:=@List.map_append
abbrev BZ:=@List.eq_nil_of_length_eq_zero
abbrev Ci:=@List.length_map
abbrev Cm:=@List.length_append
abbrev C9:=@List.mem_append_right
abbrev CV:=@List.length_replicate
abbrev AY:=@List.set_cons_succ
abbrev CS:=@List.nodup_append
abbrev CZ:=@List.length_drop
abbrev Dq:=@List.mem_cons
abbrev AZ:=@List.set_cons_zero
abbrev Dx:=@List.map_cons
abbrev Du:=@List.append_nil
abbrev DY:=@List.mem_iff_getElem
abbrev DT:=@Nat.zero_add
abbrev Dy:=@List.length_take
abbrev DC:=@List.getElem?_eq_none
abbrev D7:=@List.getElem?_replicate
abbrev DI:=@List.append_assoc
abbrev DL:=@List.take_length
abbrev DV:=@List.getElem?_drop
abbrev EU:=@List.map_congr_left
abbrev D5:=@List.map_nil
abbrev D8:=@List.getElem?_append_right
abbrev Em:=@List.length_cons
abbrev Ee:=@List.mem_cons_of_mem
abbrev Ei:=@List.getElem?_set
abbrev Ez:=@List.take_of_length_le
abbrev Ej:=@List.getElem?_append_left
abbrev Ep:=@Nat.eq_of_testBit_eq
abbrev Eu:=@List.ext_getElem?
abbrev Et:=@List.getElem?_take_of_lt
abbrev FU:=@List.ext_getElem
abbrev E5:=@List.mem_or_eq_of_mem_set
abbrev Gq:=@List.count_append
abbrev EK:=@List.map_toArray
abbrev EJ:=@List.cons_append
abbrev EH:=@List.nil_append
abbrev EN:=@Option.map_some
abbrev FW:=@List.flatMap_cons
abbrev EZ:=@List.getElem?_cons_succ
abbrev Fj:=@List.take_add_one
abbrev FT:=@List.getElem_mem
abbrev Fa:=@List.replicate_succ
abbrev FD:=@List.getElem?_range
abbrev Hr:=@List.getElem_map
abbrev GH:=@List.nodup_cons
abbrev He:=@List.length_set
abbrev Fq:=@List.getElem?_toArray
abbrev Gw:=@List.getElem?_set_ne
abbrev FV:=@Bool.and_eq_true
abbrev F9:=@Nat.le_trans
abbrev F5:=@List.take_append_drop
abbrev Gs:=@Nat.add_assoc
abbrev H7:=@List.mem_range
abbrev Gh:=@Nat.lt_of_lt_of_le
abbrev KH:=@Nat.mul_zero
abbrev Gn:=@List.length_pos_iff
abbrev Gi:=@Nat.testBit_two_pow_mul_add
abbrev Lc:=@List.countP_cons
abbrev Gy:=@List.map_set
abbrev Ja:=@List.map_map
abbrev GK:=@Int.natCast_mul
abbrev Hy:=@List.drop_eq_getElem_cons
abbrev GL:=@Bool.true_and
abbrev GX:=@Nat.sub_self
abbrev Gj:=@List.perm_append_comm
abbrev Jb:=@List.eq_of_mem_replicate
abbrev J7:=@List.getElem_range
abbrev G9:=@Nat.pow_le_pow_right
abbrev G7:=@List.mem_of_mem_take
abbrev Ho:=@List.not_mem_nil
abbrev JI:=@List.getElem?_set_self
abbrev Hu:=@List.pairwise_iff_getElem
abbrev Ie:=@Nat.lt_or_ge
abbrev Ii:=@Nat.eq_zero_or_pos
abbrev Ik:=@Nat.testBit_mod_two_pow
abbrev Iu:=@List.size_toArray
abbrev IB:=@Option.map_none
abbrev JD:=@Int.toNat_of_nonneg
abbrev IW:=@Nat.testBit_succ
abbrev IV:=@List.getElem?_take
abbrev I4:=@Bool.false_eq_true
abbrev Jh:=@Nat.mul_one
abbrev Jf:=@Bool.false_and
abbrev IJ:=@Nat.shiftRight_eq_div_pow
abbrev PZ:=@List.count_singleton
abbrev P7:=@Option.some.inj
abbrev Jw:=@List.mem_filter
abbrev Jy:=@List.length_nil
abbrev Jq:=@List.foldl_append
abbrev Jd:=@Option.isSome_iff_exists
abbrev JG:=@Nat.mul_comm
abbrev JK:=@Nat.zero_le
abbrev Js:=@List.eraseIdx_cons_zero
abbrev Jt:=@List.eraseIdx_cons_succ
abbrev JW:=@Array.toList_map
abbrev Jo:=@List.take_append_of_le_length
abbrev Ls:=@List.drop_append_of_le_length
abbrev JF:=@Nat.testBit_lt_two_pow
abbrev Jz:=@Nat.testBit_two_pow_sub_succ
abbrev KF:=@Nat.add_zero
abbrev KA:=@Nat.min_eq_left
abbrev Kq:=@List.set_append_right
abbrev KQ:=@Nat.xor_assoc
abbrev KN:=@Array.toList_push
abbrev QZ:=@List.nodup_iff_pairwise_ne
abbrev PO:=@List.mem_erase_of_ne
abbrev Ld:=@List.take_zero
abbrev Ll:=@List.all_eq_true
abbrev Lj:=@Int.natCast_ediv
abbrev KZ:=@Array.toList_modify
abbrev LG:=@Nat.pow_succ
abbrev NQ:=@List.length_erase_of_mem
abbrev KT:=@Array.getElem?_replicate
abbrev LU:=@Nat.testBit_and
abbrev LW:=@List.range_succ
abbrev LK:=@Nat.xor_lt_two_pow
abbrev LH:=@Array.ext_getElem?
abbrev OH:=@List.drop_of_length_le
abbrev LJ:=@List.drop_eq_nil_of_le
abbrev LD:=@Int.le_ediv_iff_mul_le
abbrev MK:=@Option.some.injEq
abbrev MJ:=@Int.lt_trichotomy
abbrev Nk:=@List.drop_drop
abbrev Mc:=@List.eraseIdx_sublist
abbrev Pv:=@List.eq_nil_iff_forall_not_mem
abbrev Ns:=@Nat.testBit_zero
abbrev O9:=@List.perm_middle
abbrev Nw:=@List.flatMap_nil
abbrev Lu:=@Nat.exists_eq_succ_of_ne_zero
abbrev MX:=@Nat.mul_le_mul_right
abbrev Vt:=@List.perm_cons_erase
abbrev Nj:=@List.pairwise_append
abbrev Nr:=@List.getElem?_of_mem
abbrev NU:=@List.map_take
abbrev LQ:=@Array.getElem?_setIfInBounds
abbrev VA:=@List.map_id
abbrev N7:=@Nat.testBit_xor
abbrev N9:=@Nat.div_le_self
abbrev NW:=@Nat.and_le_left
abbrev NZ:=@List.drop_left'
abbrev NI:=@List.replicate_zero
abbrev NK:=@List.mem_map_of_mem
abbrev WL:=@List.countP_pos_iff
abbrev MC:=@Nat.testBit_two_pow_sub_one
abbrev MS:=@Nat.mod_two_eq_zero_or_one
abbrev Og:=@List.mem_replicate
abbrev OB:=@List.drop_zero
abbrev NH:=@List.getElem_append_right
abbrev RX:=@List.pairwise_map
abbrev OD:=@List.getElem_take
abbrev Sv:=@List.Nodup.not_mem_erase
abbrev Oi:=@Nat.exists_eq_add_of_le
abbrev TK:=@Option.getD_some
abbrev TI:=@List.mem_flatMap
abbrev Ph:=@List.drop_length
abbrev Ug:=@List.length_pos_of_mem
abbrev OV:=@Array.getElem?_eq_none
abbrev Uh:=@Nat.add_comm
abbrev Qe:=@Nat.div_add_mod
abbrev P8:=@List.take_left'
abbrev P6:=@List.cons.injEq
abbrev Qc:=@Int.ediv_nonneg
abbrev OZ:=@Nat.le_of_ble_eq_true
abbrev Vb:=@List.set_getElem_self
abbrev U1:=@List.mem_of_mem_erase
abbrev O0:=@List.length_filter_le
abbrev O4:=@List.Perm.append_left
abbrev QI:=@Nat.mod_lt
abbrev PK:=@List.reverse_reverse
abbrev PI:=@List.mem_of_mem_drop
abbrev QT:=@List.Perm.refl
abbrev RD:=@Int.one_mul
abbrev Qk:=@Nat.testBit_two_pow
abbrev Qj:=@List.filter_eq_self
abbrev Qg:=@List.drop_succ_cons
abbrev Qh:=@Array.length_toList
abbrev Q7:=@Nat.one_le_two_pow
abbrev QM:=@Nat.lt_of_le_of_lt
abbrev Q9:=@List.pairwise_cons
abbrev Xj:=@List.count_pos_iff
abbrev OT:=@Nat.testBit_eq_decide_div_mod_eq
abbrev RN:=@List.reverse_cons
abbrev Ry:=@Bool.eq_false_iff
abbrev Yj:=@Nat.le_total
abbrev TS:=@List.map_id'
abbrev Po:=@Int.mul_le_mul_of_nonneg_right
abbrev Tj:=@Nat.le_of_not_lt
abbrev YR:=@Nat.div_eq_of_lt
abbrev Tf:=@List.prefix_refl
abbrev Vs:=@Int.le_refl
abbrev UM:=@Int.natCast_add
abbrev Qy:=@Nat.two_pow_add_eq_or_of_lt
abbrev Qp:=@Array.getD_eq_getD_getElem?
abbrev AV:=@List.setIfInBounds_toArray
abbrev Ri:=@List.perm_ext_iff_of_nodup
abbrev VK:=@Nat.testBit_or
abbrev Vz:=@List.take_left
abbrev VP:=@Bool.and_false
abbrev abZ:=@List.getElem?_eq_none_iff
abbrev Xv:=@Nat.blt_eq
abbrev Tn:=@Nat.testBit_two_pow_mul
abbrev TJ:=@Nat.add_sub_cancel_left
abbrev Uw:=@Nat.div_div_eq_div_mul
abbrev Ub:=@List.getElem?_eraseIdx
abbrev XU:=@Nat.zero_mul
abbrev XT:=@Nat.xor_comm
abbrev Yl:=@Nat.sub_zero
abbrev XJ:=@Int.ofNat_lt
abbrev U9:=@Nat.eq_of_beq_eq_true
abbrev U3:=@Nat.add_mul_div_right
abbrev U8:=@List.singleton_append
abbrev UZ:=@List.getElem_set_self
abbrev UY:=@List.eq_nil_or_concat
abbrev U7:=@List.concat_eq_append
abbrev U5:=@Array.getElem?_toList
abbrev Va:=@Array.getElem?_append
theorem Af{p:Prop}(h:p:=by simp;omega):p:=h
theorem Ae{p:Prop}(h:p:=by decide):p:=h
theorem zB{p:Prop}(h:p:=by rw[KY];exact hc):p:=h
theorem zS{p:Prop}(h:p:=by simpa using h):p:=h
theorem zO{p:Prop}(h:p:=by simpa using hi):p:=h
theorem Ad{p:Prop}(h:p:=by simp only[execOp,hx,hy,Sem.run_bind,hr,Result.andThen_ok];rfl):p:=h
theorem zZ{p:Prop}(h:p:=by unfold maxLen;omega):p:=h
theorem zY{p:Prop}(h:p:=by simp only[execOp,resolve,invoke,builtin,EK,Dx,D5,hd,hs,Sem.run_bind,Sem.run_pure,Result.andThen_ok,hrun];rfl):p:=h
theorem zT{p:Prop}(h:p:=by simp only[execOp,EK,Dx,D5,hx,Sem.run_bind,r1,Result.andThen_ok];rfl):p:=h
theorem zN{p:Prop}(h:p:=by simpa using hj):p:=h
theorem zF{p:Prop}(h:p:=by rintro e a W' ⟨rfl,f',rfl,hR⟩;exact(h2 f' W' hR).out):p:=h
theorem Ac{p:Prop}(h:p:=by simp only[execOp,resolve,invoke,builtin,EK,Dx,D5,hs,hy,Sem.run_bind,Sem.run_pure,Result.andThen_ok,hr]):p:=h
theorem zD{p:Prop}(h:p:=by rw[←ho.1];simpa using hi):p:=h
theorem zK{p:Prop}(h:p:=by simpa using this):p:=h
theorem zL{p:Prop}(h:p:=by simp only[execOp,hx,hy,hu,Sem.run_bind,hrun,Result.andThen_ok,Sem.run_pure]):p:=h
theorem zV{p:Prop}(h:p:=by simp only[execOp,hx,Sem.run_bind,hrun,Result.andThen_ok,Sem.run_pure]):p:=h
theorem Ak{p:Prop}(h:p:=by kernel_rfl):p:=h
theorem zJ{p:Prop}(h:p:=by split<;>omega):p:=h
theorem Ai{p:Prop}(h:p:=by assumption):p:=h
theorem Ag{p:Prop}(h:p:=by first|exact Bg _|(simp;done)|(simp;omega)):p:=h
theorem zX{p:Prop}(h:p:=by simpa using hz):p:=h
theorem Ah{p:Prop}(h:p:=by first|exact(Bh.EO _ _ _ Y).symm|exact(Bh.F6 _ _ _ Y).symm|(rw[Bh.EO _ _ _ Y];simp;omega)|(rw[Bh.F6 _ _ _ Y];simp;omega)):p:=h
theorem Aa{p:Prop}(h:p:=by simp[results,go_sem,Tryz.results201,r0,r1,r2,r3,r4,r5,r6,r7,r8]):p:=h
theorem zU{p:Prop}(h:p:=by rw[CZ];omega):p:=h
theorem zC{p:Prop}(h:p:=by rw[←akd];show(xsOf F (k*5+1+m)).length=0;rw[e];rfl):p:=h
theorem zI{p:Prop}(h:p:=by unfold Bm.nw;omega):p:=h
theorem zH{p:Prop}(h:p:=by show i%64≤64;omega):p:=h
theorem zM{p:Prop}(h:p:=by simp only[execOp,resolve,invoke,builtin,EK,Dx,D5,hx,Sem.run_bind,Sem.run_pure,Result.andThen_ok,hrun]):p:=h
theorem Aj{p:Prop}(h:p:=by first|exact JU H 0 (vs:=[.int .i64 v0,.int .i64 v1,.int .i64 v2,.int .i64 v3,.int .i64 v4,.int .i64 v5,.int .i64 v6,.int .i64 v7]) O O O O KU IC|exact JU H 1 (vs:=[.int .i64 v0,.int .i64 v1,.int .i64 v2,.int .i64 v3,.int .i64 v4,.int .i64 v5,.int .i64 v6,.int .i64 v7]) O O O O KU IC):p:=h
theorem zQ{p:Prop}(h:p:=by have h:=H.pick 0 O;exact(Heap.drop (E:=blk p3 _ _) H).ents):p:=h
theorem zW{p:Prop}(h:p:=by simp[results,go_sem,Tryz.results235,r0,r1]):p:=h
theorem zG{p:Prop}(h:p:=by rw[h,hy1]at hx1;injection hx1 with hx1;exact hx1.symm):p:=h
section
variable{p r:Prop}
theorem kD(k:r)(h:Zq r→p:=by intro Zz;unfold wpList;rw[hy,if_pos hw];refine .inl ?_;unfold Oper.wp;exact Zz.1):p:=h ⟨k⟩
theorem nN(k:r)(h:Zq r→p:=by intro Zz;unfold wpListIn;rw[hy,if_pos hw];exact Zz.1):p:=h ⟨k⟩
theorem jg(k:r)(h:Zq r→p:=by intro Zz;simp only[Instr.buildSlice,Sem.run_bind,run_underlying ht,Result.andThen_ok,hs1,hbig,if_false,hne,hz1,Sem.run_pure];exact Zz.1):p:=h ⟨k⟩
theorem jr(k:r)(h:Zq r→p:=by intro Zz;refine BH (Cj (v:= .pointer _) O O ?_);exact Zz.1):p:=h ⟨k⟩
theorem uq(k:r)(h:Zq r→p:=by intro Zz;refine EX O (Au (jr ?_));exact Zz.1):p:=h ⟨k⟩
theorem bJ(k:r)(h:Zq r→p:=by intro Zz;refine Eo 0 O O O (fun _ hS=>BP (v:= .pointer _) O) trivial (Eo 1 O O O (fun _ hS=>ES O) trivial ?_);exact Zz.1):p:=h ⟨k⟩
theorem aj(k:r)(h:Zq r→p:=by intro Zz;refine AA (Bc trivial ?_);exact Zz.1):p:=h ⟨k⟩
theorem vK(k:r)(h:Zq r→p:=by intro Zz;refine aj ?_;refine Eo 15 O O O (fun _ hS=>CG (v:= .int _ _) O O) trivial (Bd 16 O (apA (q:=n) H 1 O O O O O (O) ?_));exact Zz.1):p:=h ⟨k⟩
theorem vC(k:r)(h:Zq r→p:=by intro Zz;refine aj ?_;refine Eo 18 O O O (fun _ hS=>CG (v:= .int _ _) O O) trivial (Bd 19 O (apA (q:=s) H 2 O O O O O (O) ?_));exact Zz.1):p:=h ⟨k⟩
theorem qx(k:r)(h:Zq r→p:=by intro Zz;refine aj ?_;refine Bd 3 O ?_;exact Zz.1):p:=h ⟨k⟩
theorem aP(k:r)(h:Zq r→p:=by intro Zz;refine BK (fun _ H=>BP (v:= .pointer _) O) (BK (fun _ H=>ES O) ?_);exact Zz.1):p:=h ⟨k⟩
theorem eG(k:r)(h:Zq r→p:=by intro Zz;refine BK (fun _ H=>BP (v:= .int _ _) O) ?_;exact Zz.1):p:=h ⟨k⟩
theorem sN(k:r)(h:Zq r→p:=by intro Zz;refine DR (BF O (Dl O ?_));exact Zz.1):p:=h ⟨k⟩
theorem xY(k:r)(h:Zq r→p:=by intro Zz;refine BD H 0 O O O KW (Az O ?_);exact Zz.1):p:=h ⟨k⟩
theorem qU(k:r)(h:Zq r→p:=by intro Zz;refine Aw (BN O (Au ?_));exact Zz.1):p:=h ⟨k⟩
theorem eY(k:r)(h:Zq r→p:=by intro Zz;refine Aw (BF O (Dl O ?_));exact Zz.1):p:=h ⟨k⟩
theorem wP(k:r)(h:Zq r→p:=by intro Zz;refine eY ?_;refine BR O La (BD (HR.same H.only) 0 O O O KW ?_);exact Zz.1):p:=h ⟨k⟩
theorem lH(k:r)(h:Zq r→p:=by intro Zz;refine AL (CG (v:= .bool _) O O) ?_;exact Zz.1):p:=h ⟨k⟩
theorem dw(k:r)(h:Zq r→p:=by intro Zz;refine DX O (DZ (Cb (Cb (EG (AO ?_)))));exact Zz.1):p:=h ⟨k⟩
theorem wW(k:r)(h:Zq r→p:=by intro Zz;refine Aw (adZ M H 0 (hlm) O O O (lH ?_));refine Au (AP (dw ?_));exact Zz.1):p:=h ⟨k⟩
theorem bQ(k:r)(h:Zq r→p:=by intro Zz;refine Cj (v:= .bool _) O O ?_;exact Zz.1):p:=h ⟨k⟩
theorem gZ(k:r)(h:Zq r→p:=by intro Zz;refine BN O (Au (BH (bQ ?_)));exact Zz.1):p:=h ⟨k⟩
theorem qw(k:r)(h:Zq r→p:=by intro Zz;refine AQ O (Au (AP ?_));exact Zz.1):p:=h ⟨k⟩
theorem xK(k:r)(h:Zq r→p:=by intro Zz;refine lH ?_;refine Au (AP (EI O (Bj (AO (E8 (Aw (AL (amF M H 0 O O) (DK O O (DK O O (AQ O (qw ?_)))))))))));exact Zz.1):p:=h ⟨k⟩
theorem kK(k:r)(h:Zq r→p:=by intro Zz;refine Az O (AL (G8 O O Y) (BL O ?_));exact Zz.1):p:=h ⟨k⟩
theorem xR(k:r)(h:Zq r→p:=by intro Zz;refine DR (Az O (kK ?_));refine AX 20 O (Fz O) (AX 20 O (Fz O) (AX 20 O (Fz O) (AX 20 O (Dk O O (wI Y)) ?_)));exact Zz.1):p:=h ⟨k⟩
theorem ql(k:r)(h:Zq r→p:=by intro Zz;refine Au (EI O (Aw ?_));exact Zz.1):p:=h ⟨k⟩
theorem wG(k:r)(h:Zq r→p:=by intro Zz;refine ql ?_;refine BN O (Au (BH ?_));exact Zz.1):p:=h ⟨k⟩
theorem uI(k:r)(h:Zq r→p:=by intro Zz;refine Az O (AL (F7 O O Y) (BL O ?_));exact Zz.1):p:=h ⟨k⟩
theorem bM(k:r)(h:Zq r→p:=by intro Zz;refine AQ O (Au (AP (Aw (Az O (AL (CO O O Y) (BL O ?_))))));exact Zz.1):p:=h ⟨k⟩
theorem dX(k:r)(h:Zq r→p:=by intro Zz;refine Au (DX O (Bj (AO ?_)));exact Zz.1):p:=h ⟨k⟩
theorem fE(k:r)(h:Zq r→p:=by intro Zz;refine Dp O O (dX ?_);exact Zz.1):p:=h ⟨k⟩
theorem fJ(k:r)(h:Zq r→p:=by intro Zz;refine AP (Aw (Az O ?_));exact Zz.1):p:=h ⟨k⟩
theorem dI(k:r)(h:Zq r→p:=by intro Zz;refine AL (Dk O O (wI Y)) ?_;exact Zz.1):p:=h ⟨k⟩
theorem nI(k:r)(h:Zq r→p:=by intro Zz;refine Az O (dI ?_);exact Zz.1):p:=h ⟨k⟩
theorem eX(k:r)(h:Zq r→p:=by intro Zz;refine AL (Df O O Y) (Au (EI O (Bj (AO (AP (E8 ?_))))));exact Zz.1):p:=h ⟨k⟩
theorem jl(k:r)(h:Zq r→p:=by intro Zz;refine Aw (BF O (Az O ?_));exact Zz.1):p:=h ⟨k⟩
theorem fA(k:r)(h:Zq r→p:=by intro Zz;refine DR (Az O (dI ?_));refine AQ O (AA (CU ?_));exact Zz.1):p:=h ⟨k⟩
theorem jy(k:r)(h:Zq r→p:=by intro Zz;refine Dh (AO (fA ?_));exact Zz.1):p:=h ⟨k⟩
theorem kH(k:r)(h:Zq r→p:=by intro Zz;refine AL (CO O O Y) (Au (dw ?_));exact Zz.1):p:=h ⟨k⟩
theorem aX(k:r)(h:Zq r→p:=by intro Zz;refine D9 O (DK O O (AL (CG (v:= .bool _) O O) (AQ O (BN O ?_))));exact Zz.1):p:=h ⟨k⟩
theorem rU(k:r)(h:Zq r→p:=by intro Zz;refine AQ O (Au (jl ?_));exact Zz.1):p:=h ⟨k⟩
theorem aQ(k:r)(h:Zq r→p:=by intro Zz;refine Cj (v:= .int _ _) O O ?_;exact Zz.1):p:=h ⟨k⟩
theorem fH(k:r)(h:Zq r→p:=by intro Zz;refine AQ O (Au (BH (aQ ?_)));exact Zz.1):p:=h ⟨k⟩
theorem xX(k:r)(h:Zq r→p:=by intro Zz;refine Au (Aw (fH ?_));exact Zz.1):p:=h ⟨k⟩
theorem jk(k:r)(h:Zq r→p:=by intro Zz;refine AQ O (Au (fJ ?_));exact Zz.1):p:=h ⟨k⟩
theorem oL(k:r)(h:Zq r→p:=by intro Zz;refine AQ O (Au (BH (CX ?_)));exact Zz.1):p:=h ⟨k⟩
theorem dn(k:r)(h:Zq r→p:=by intro Zz;refine Gf (v:= .int _ _) (v2:= .int _ _) O O O ?_;exact Zz.1):p:=h ⟨k⟩
theorem uD(k:r)(h:Zq r→p:=by intro Zz;refine AQ O (oL ?_);refine dn ?_;exact Zz.1):p:=h ⟨k⟩
theorem nK(k:r)(h:Zq r→p:=by intro Zz;refine AL (FH O O (wI Y)) ?_;exact Zz.1):p:=h ⟨k⟩
theorem pI(k:r)(h:Zq r→p:=by intro Zz;refine AQ O (AQ O (Au (BH (dn ?_))));exact Zz.1):p:=h ⟨k⟩
theorem xU(k:r)(h:Zq r→p:=by intro Zz;refine AL (ER O O Y) (dX ?_);refine Aw ?_;exact Zz.1):p:=h ⟨k⟩
theorem jW(k:r)(h:Zq r→p:=by intro Zz;refine AX 25 O (WU O) (Cc 38 O O (Cc 38 O O (Cc 38 O O (Cc 38 O O (Cc 38 O O (Cc 38 O O (Cc 38 O O (Cc 38 O O (Cc 38 O O (Iq 47 O (Iq 47 O (Iq 47 O (Cc 38 O O ?_)))))))))))));refine AX 25 O (HY (v:= .bool _) O O) (ED O O ?_);exact Zz.1):p:=h ⟨k⟩
theorem bg(k:r)(h:Zq r→p:=by intro Zz;refine AX 25 O (Fz O) (AX 25 O (CO O O Y) (AX 25 O (WU O) (AX 28 O (Fz O) (AX 28 O (MQ O) (AX 28 O (ES O) (AX 28 O (CB O La) (AX 28 O (Ef (HR.same H.only) 0 O O O KW) (AX 28 O (Fz O) (AX 28 O (TF (HR.same H.only) 1 O O O (gd) (hgk) underlying127 (JL GI) O) (AX 28 O (CO O O Y) (AX 25 O (Ku (v:= .bool _) O O) (AX 25 O (WU O) (AX 38 O (Fz O) ?_)))))))))))));refine AX 38 O (MQ O) (AX 38 O (ES O) (AX 38 O (CB O La) (AX 38 O (Ef (HR.same H.only) 0 O O O KW) (AX 38 O (Fz O) (AX 38 O (TF (HR.same H.only) 1 O O O (gd) (hgk) underlying127 (JL GI) O) ?_)))));exact Zz.1):p:=h ⟨k⟩
theorem vU(k:r)(h:Zq r→p:=by intro Zz;refine DR (Az O (kK ?_));refine bg ?_;refine AX 38 O (Fv O O Y) (AX 38 O (WU O) (AX 47 O (Fz O) (AX 47 O (Fz O) ?_)));exact Zz.1):p:=h ⟨k⟩
theorem xH(k:r)(h:Zq r→p:=by intro Zz;refine Cc 7 O O (Cc 7 O O (Cc 7 O O (Cc 7 O O (Cc 7 O O ?_))));exact Zz.1):p:=h ⟨k⟩
theorem jq(k:r)(h:Zq r→p:=by intro Zz;refine AP (eY ?_);refine BR O WI (BD H 0 O O O ag4 (BL O (AX 7 O (MQ O) (AX 7 O (ES O) (AX 7 O (CB O aef) (AX 7 O (Ef H 0 O O O ag4) (AX 7 O (WU O) ?_)))))));exact Zz.1):p:=h ⟨k⟩
theorem rX(k:r)(h:Zq r→p:=by intro Zz;refine BM 37 func222 O (qU ?_);refine jq ?_;refine AX 12 O (MQ O) (AX 12 O (ES O) (AX 12 O (CB O VX) (AX 12 O (Ef H 0 O O O GU) ?_)));exact Zz.1):p:=h ⟨k⟩
theorem mQ(k:r)(h:Zq r→p:=by intro Zz;refine BD H 0 O O O GU ?_;exact Zz.1):p:=h ⟨k⟩
theorem jh(k:r)(h:Zq r→p:=by intro Zz;refine Ic (u:= .int _ _) H 0 O O O O O O Kz ?_;exact Zz.1):p:=h ⟨k⟩
theorem uX(k:r)(h:Zq r→p:=by intro Zz;refine Au (eY ?_);exact Zz.1):p:=h ⟨k⟩
theorem iK(k:r)(h:Zq r→p:=by intro Zz;refine Cj (v:= .slice _ _ _) O O ?_;exact Zz.1):p:=h ⟨k⟩
theorem oZ(k:r)(h:Zq r→p:=by intro Zz;refine En O (Au (BH (iK ?_)));exact Zz.1):p:=h ⟨k⟩
theorem kU(k:r)(h:Zq r→p:=by intro Zz;refine AQ O (Au (AP (E8 (Aw (Az O ?_)))));exact Zz.1):p:=h ⟨k⟩
theorem iR(k:r)(h:Zq r→p:=by intro Zz;refine AX 10 O (Fz O) (AX 10 O (MQ O) (AX 10 O (ES O) (AX 10 O (CB O PE) (AX 10 O (Ef H 0 O O O JE) (AX 10 O (Ey O underlying55) ?_)))));exact Zz.1):p:=h ⟨k⟩
theorem uw(k:r)(h:Zq r→p:=by intro Zz;refine BM 37 func161 O (Aw (kU ?_));refine AL (CO O O Y) (BL O (iR ?_));exact Zz.1):p:=h ⟨k⟩
theorem lU(k:r)(h:Zq r→p:=by intro Zz;refine BN O (Au (EI O (Aw (AQ O (Au (BH (Fe (CX (aQ ?_)))))))));exact Zz.1):p:=h ⟨k⟩
theorem sZ(k:r)(h:Zq r→p:=by intro Zz;refine BF O (s_call O (VU g d _ H0.ents hs) (abn O) ?_);exact Zz.1):p:=h ⟨k⟩
theorem oU(k:r)(h:Zq r→p:=by intro Zz;refine DX O (Bj (Dh (AO ?_)));exact Zz.1):p:=h ⟨k⟩
theorem uQ(k:r)(h:Zq r→p:=by intro Zz;refine BN O (Au (oU ?_));exact Zz.1):p:=h ⟨k⟩
theorem nY(k:r)(h:Zq r→p:=by intro Zz;refine BM 23 func133 O (Aw (bM ?_));refine AX 7 O (Fz O) (AX 7 O (MQ O) (AX 7 O (ES O) (AX 7 O (CB O PE) (AX 7 O (Ef H 0 O O O JE) (AX 7 O (Ey O underlying55) ?_)))));exact Zz.1):p:=h ⟨k⟩
theorem pz(k:r)(h:Zq r→p:=by intro Zz;refine jk ?_;refine AL (Df O O Y) (BL O ?_);exact Zz.1):p:=h ⟨k⟩
theorem fV(k:r)(h:Zq r→p:=by intro Zz;refine Au (EI O (Aw (AQ O (Au (BH (CX (aQ ?_)))))));exact Zz.1):p:=h ⟨k⟩
theorem fD(k:r)(h:Zq r→p:=by intro Zz;refine AL (CO O O Y) (BL O (AX 8 O (Fz O) (AX 8 O (MQ O) (AX 8 O (ES O) (AX 8 O (CB O RP) (AX 8 O (Ef H 0 O O O RJ) (AX 8 O (Ey O underlying155) ?_)))))));exact Zz.1):p:=h ⟨k⟩
theorem oP(k:r)(h:Zq r→p:=by intro Zz;refine BM 49 func226 O (Aw (kU ?_));refine fD ?_;refine AX 8 O (F7 O O Y) (Dp O O (BN O ?_));exact Zz.1):p:=h ⟨k⟩
theorem oq(k:r)(h:Zq r→p:=by intro Zz;refine AL (FC O O O Y underlying155 sz4) ?_;exact Zz.1):p:=h ⟨k⟩
theorem vw(k:r)(h:Zq r→p:=by intro Zz;refine AL (EM O) (uQ ?_);refine AP (eY ?_);refine BR O RP (BD H 0 O O O RJ (Az O (oq ?_)));refine AL (Nq H 4 O O Ai ag4) ?_;exact Zz.1):p:=h ⟨k⟩
theorem uz(k:r)(h:Zq r→p:=by intro Zz;refine eY ?_;refine BR O adH (BD H 0 O O O RJ (Az O (oq ?_)));refine adG (u:= .bool _) H 5 O O O O O Y (fun _=>rfl) sz4 ?_;exact Zz.1):p:=h ⟨k⟩
theorem iU(k:r)(h:Zq r→p:=by intro Zz;refine BK (fun _ H=>BP (v:= .pointer _) O) (aP ?_);exact Zz.1):p:=h ⟨k⟩
theorem mM(k:r)(h:Zq r→p:=by intro Zz;refine BK (fun _ H=>Ef H 0 O O O JE) (eG ?_);exact Zz.1):p:=h ⟨k⟩
theorem pY(k:r)(h:Zq r→p:=by intro Zz;refine Cc 8 O O (Cc 8 O O (Cc 8 O O (Cc 8 O O (Cc 8 O O (Cc 8 O O (Cc 8 O O ?_))))));exact Zz.1):p:=h ⟨k⟩
theorem dV(k:r)(h:Zq r→p:=by intro Zz;refine CY O (Di O underlying55 ?_);exact Zz.1):p:=h ⟨k⟩
theorem tX(k:r)(h:Zq r→p:=by intro Zz;refine AP (Aw (dV ?_));exact Zz.1):p:=h ⟨k⟩
theorem tV(k:r)(h:Zq r→p:=by intro Zz;refine Az O (Au (E8 ?_));exact Zz.1):p:=h ⟨k⟩
theorem uN(k:r)(h:Zq r→p:=by intro Zz;refine BM 26 func194 O (qU ?_);refine tX ?_;refine dV ?_;refine AL (Dc O O Y) (dX ?_);refine tX ?_;refine tV ?_;exact Zz.1):p:=h ⟨k⟩
theorem ak(k:r)(h:Zq r→p:=by intro Zz;refine Aw (AL (Df O O Y) (Au (AP (EI O (Bj (AO (AP (E8 (Aw ?_)))))))));exact Zz.1):p:=h ⟨k⟩
theorem lW(k:r)(h:Zq r→p:=by intro Zz;refine ak ?_;refine Az O ?_;exact Zz.1):p:=h ⟨k⟩
theorem bC(k:r)(h:Zq r→p:=by intro Zz;refine BK (fun _ H=>BP (v:= .slice _ _ _) O) (BK (fun _ H=>BP (v:= .int _ _) O) ?_);exact Zz.1):p:=h ⟨k⟩
theorem kY(k:r)(h:Zq r→p:=by intro Zz;refine WY mixed Ak H (bC ?_);refine BK (fun _ H=>Gp O O O Y underlying55 GV) (BK (fun _ H=>Hq H O cx J GR) (bC ?_));refine BK (fun _ H=>Gp O O O Y underlying55 GV) (BK (fun _ H=>Hq H O cy J GR) ?_);exact Zz.1):p:=h ⟨k⟩
theorem aC(k:r)(h:Zq r→p:=by intro Zz;refine Dh (AO (DR (AL (Dk O O (wI Y)) (Az O (AA (CU ?_))))));exact Zz.1):p:=h ⟨k⟩
theorem nM(k:r)(h:Zq r→p:=by intro Zz;refine DX O (Bj (aC ?_));exact Zz.1):p:=h ⟨k⟩
theorem jo(k:r)(h:Zq r→p:=by intro Zz;refine Fe (CX (CX (Fe (CX (bQ ?_)))));exact Zz.1):p:=h ⟨k⟩
theorem rO(k:r)(h:Zq r→p:=by intro Zz;refine AO (EI O (qU ?_));refine BH (jo ?_);exact Zz.1):p:=h ⟨k⟩
theorem aF(k:r)(h:Zq r→p:=by intro Zz;refine Aw (AL (CO O O Y) (Au (AP (DX O (DZ (Cb (Cb (EG ?_))))))));exact Zz.1):p:=h ⟨k⟩
theorem je(k:r)(h:Zq r→p:=by intro Zz;refine aF ?_;refine AO ?_;exact Zz.1):p:=h ⟨k⟩
theorem uS(k:r)(h:Zq r→p:=by intro Zz;refine je ?_;refine Aw ?_;exact Zz.1):p:=h ⟨k⟩
theorem wL(k:r)(h:Zq r→p:=by intro Zz;refine BM 8 func84 O (Aw (En O (Au (AP (Aw (CY O (AL (abU O O underlying55) (dX ?_))))))));refine Aw (aiz 1 Y H O underlying55 Ig ?_);exact Zz.1):p:=h ⟨k⟩
theorem aZ(k:r)(h:Zq r→p:=by intro Zz;refine s_call O (Nh _ _ _ ws _ (fun _=>⟨_,_,rfl,J,(HR.same H.only).Md 0 O⟩) Y Y) (U0 O) ?_;exact Zz.1):p:=h ⟨k⟩
theorem mP(k:r)(h:Zq r→p:=by intro Zz;refine AA (Bc H.only ?_);exact Zz.1):p:=h ⟨k⟩
theorem bG(k:r)(h:Zq r→p:=by intro Zz;refine Jk (Value.int .u64) 0 (m:=(8*m)) H O O O Y Y Y underlying55 Ig O ?_;exact Zz.1):p:=h ⟨k⟩
theorem aJ(k:r)(h:Zq r→p:=by intro Zz;refine Jk Value.bool false (m:=m) H O O O Y Y Y underlying155 Nl O ?_;exact Zz.1):p:=h ⟨k⟩
theorem oV(k:r)(h:Zq r→p:=by intro Zz;refine BO O (aJ ?_);exact Zz.1):p:=h ⟨k⟩
theorem tJ(k:r)(h:Zq r→p:=by intro Zz;refine mP ?_;refine Bd 9 O (aJ ?_);exact Zz.1):p:=h ⟨k⟩
theorem aG(k:r)(h:Zq r→p:=by intro Zz;refine Bc H.only (Dj 10 O O O (fun _ hS=>FP (Eb _ _ _ _ _ _ _ _ _ _ _ _ _ _ _) O) H.only (Bd 11 O ?_));exact Zz.1):p:=h ⟨k⟩
theorem qX(k:r)(h:Zq r→p:=by intro Zz;refine AA (aG ?_);exact Zz.1):p:=h ⟨k⟩
theorem aW(k:r)(h:Zq r→p:=by intro Zz;refine AA (Bc H.only (Dj 12 O O O (fun _ hS=>DJ (v:= .pointer _) O) H.only ?_));exact Zz.1):p:=h ⟨k⟩
theorem qI(k:r)(h:Zq r→p:=by intro Zz;refine aW ?_;refine CJ ?_;exact Zz.1):p:=h ⟨k⟩
theorem sV(k:r)(h:Zq r→p:=by intro Zz;refine mP ?_;refine Bd 7 O (aJ ?_);exact Zz.1):p:=h ⟨k⟩
theorem rZ(k:r)(h:Zq r→p:=by intro Zz;refine mP ?_;refine Bd 5 O (bG ?_);exact Zz.1):p:=h ⟨k⟩
theorem rQ(k:r)(h:Zq r→p:=by intro Zz;refine mP ?_;refine Bd 2 O (aZ ?_);exact Zz.1):p:=h ⟨k⟩
theorem nG(k:r)(h:Zq r→p:=by intro Zz;refine AQ O (Au (Aw ?_));exact Zz.1):p:=h ⟨k⟩
theorem oG(k:r)(h:Zq r→p:=by intro Zz;refine nG ?_;refine Az O ?_;exact Zz.1):p:=h ⟨k⟩
theorem gK(k:r)(h:Zq r→p:=by intro Zz;refine AL (EM O) (dX ?_);exact Zz.1):p:=h ⟨k⟩
theorem um(k:r)(h:Zq r→p:=by intro Zz;refine iU ?_;refine BK (fun _ H=>CB O adO) (mM ?_);refine Np O O (fun _ H=>acS g.bl g.cl k _ _ _ Y) (ajs O) (iU ?_);exact Zz.1):p:=h ⟨k⟩
theorem vG(k:r)(h:Zq r→p:=by intro Zz;refine AA (aC ?_);exact Zz.1):p:=h ⟨k⟩
theorem lS(k:r)(h:Zq r→p:=by intro Zz;refine Cc 21 O O (Cc 21 O O (Cc 21 O O (Cc 21 O O (Cc 21 O O (Cc 21 O O (ED O O (fV ?_)))))));exact Zz.1):p:=h ⟨k⟩
theorem gu(k:r)(h:Zq r→p:=by intro Zz;refine bM ?_;refine AX 11 O (Fz O) (AX 11 O (CO O O Y) (Dp O O (BL O (AX 15 O (Fz O) (AX 15 O (MQ O) (s_call (EP 15 Ak O) (hL _ H.ents) (PV O) ?_))))));exact Zz.1):p:=h ⟨k⟩
theorem lX(k:r)(h:Zq r→p:=by intro Zz;refine AX 15 O (ER O O Y) (Dp O O (BL O (AX 21 O (Fz O) (AX 21 O (MQ O) (s_call (EP 21 Ak O) (hL _ H.ents) (PV O) ?_)))));exact Zz.1):p:=h ⟨k⟩
theorem rY(k:r)(h:Zq r→p:=by intro Zz;refine fJ ?_;refine Az O (nI ?_);refine nK ?_;refine AL (Rf O O Y (wI Y)) ?_;exact Zz.1):p:=h ⟨k⟩
theorem xZ(k:r)(h:Zq r→p:=by intro Zz;refine rY ?_;refine AL (YH O O Y) (Au (EI O (Bj (AO (AP (E8 (jl ?_)))))));refine s_call O (hF2) (aqg O) ?_;exact Zz.1):p:=h ⟨k⟩
theorem aT(k:r)(h:Zq r→p:=by intro Zz;refine Aw (Az O (AL (Dc O O Y) (Au (DX O (Bj ?_)))));exact Zz.1):p:=h ⟨k⟩
theorem mW(k:r)(h:Zq r→p:=by intro Zz;refine AQ O (Au (aT ?_));exact Zz.1):p:=h ⟨k⟩
theorem jQ(k:r)(h:Zq r→p:=by intro Zz;refine AQ O (Au (Aw (Az O (AL (Hl O O Y) (Au (EI O (Aw (Az O (AQ O (Au (BH (Fe (CX ?_)))))))))))));refine CX (Fe (CX (aQ ?_)));exact Zz.1):p:=h ⟨k⟩
theorem vF(k:r)(h:Zq r→p:=by intro Zz;refine(open_any _ _ _ Y Y Y Y).mono ?_;exact Zz.1):p:=h ⟨k⟩
theorem ah(k:r)(h:Zq r→p:=by intro Zz;(try simp only[Act.put,List.getElem_toArray,List.getElem_cons_zero,List.getElem_cons_succ,AV,AZ,AY]);exact Zz.1):p:=h ⟨k⟩
theorem aB(k:r)(h:Zq r→p:=by intro Zz;(first|(refine wpAnyH_take (i:=0) (v:=?_) rfl Ak Ak Ak (fun _ _ _ h=>h) (Or.inl ⟨by rfl,?_⟩) Ai ?_;rotate_left;(focus (intro w hSw;(try dsimp only at hSw);go_simp;first|done|with_reducible rfl)))|(refine wpAnyH_take (i:=0) rfl Ak Ak Ak (fun _ _ _ h=>h) (Or.inr ⟨by rfl,rfl⟩) Ai ?_)|fail);refine ah ?_;(first|(refine wpAnyH_take (i:=1) (v:=?_) rfl Ak Ak Ak (fun _ _ _ h=>h) (Or.inl ⟨by rfl,?_⟩) Ai ?_;rotate_left;(focus (intro w hSw;(try dsimp only at hSw);go_simp;first|done|with_reducible rfl)))|(refine wpAnyH_take (i:=1) rfl Ak Ak Ak (fun _ _ _ h=>h) (Or.inr ⟨by rfl,rfl⟩) Ai ?_)|fail);refine ah ?_;(first|(refine wpAnyH_take (i:=2) (v:=?_) rfl Ak Ak Ak (fun _ _ _ h=>h) (Or.inl ⟨by rfl,?_⟩) Ai ?_;rotate_left;(focus (intro w hSw;(try dsimp only at hSw);go_simp;first|done|with_reducible rfl)))|(refine wpAnyH_take (i:=2) rfl Ak Ak Ak (fun _ _ _ h=>h) (Or.inr ⟨by rfl,rfl⟩) Ai ?_)|fail);refine ah ?_;exact Zz.1):p:=h ⟨k⟩
theorem bH(k:r)(h:Zq r→p:=by intro Zz;(first|(refine wpAnyH_take (i:=3) (v:=?_) rfl Ak Ak Ak (fun _ _ _ h=>h) (Or.inl ⟨by rfl,?_⟩) Ai ?_;rotate_left;(focus (intro w hSw;(try dsimp only at hSw);go_simp;first|done|with_reducible rfl)))|(refine wpAnyH_take (i:=3) rfl Ak Ak Ak (fun _ _ _ h=>h) (Or.inr ⟨by rfl,rfl⟩) Ai ?_)|fail);exact Zz.1):p:=h ⟨k⟩
theorem dF(k:r)(h:Zq r→p:=by intro Zz;(first|(refine wpAnyH_take (i:=5) (v:=?_) rfl Ak Ak Ak (fun _ _ _ h=>h) (Or.inl ⟨by rfl,?_⟩) Ai ?_;rotate_left;(focus (intro w hSw;(try dsimp only at hSw);go_simp;first|done|with_reducible rfl)))|(refine wpAnyH_take (i:=5) rfl Ak Ak Ak (fun _ _ _ h=>h) (Or.inr ⟨by rfl,rfl⟩) Ai ?_)|fail);exact Zz.1):p:=h ⟨k⟩
theorem aS(k:r)(h:Zq r→p:=by intro Zz;(first|(refine wpAnyH_take (i:=6) (v:=?_) rfl Ak Ak Ak (fun _ _ _ h=>h) (Or.inl ⟨by rfl,?_⟩) Ai ?_;rotate_left;(focus (intro w hSw;(try dsimp only at hSw);go_simp;first|done|with_reducible rfl)))|(refine wpAnyH_take (i:=6) rfl Ak Ak Ak (fun _ _ _ h=>h) (Or.inr ⟨by rfl,rfl⟩) Ai ?_)|fail);exact Zz.1):p:=h ⟨k⟩
theorem tu(k:r)(h:Zq r→p:=by intro Zz;refine ah ?_;refine aS ?_;refine ah ?_;exact Zz.1):p:=h ⟨k⟩
theorem aN(k:r)(h:Zq r→p:=by intro Zz;(first|(refine wpAnyH_take (i:=8) (v:=?_) rfl Ak Ak Ak (fun _ _ _ h=>h) (Or.inl ⟨by rfl,?_⟩) Ai ?_;rotate_left;(focus (intro w hSw;(try dsimp only at hSw);go_simp;first|done|with_reducible rfl)))|(refine wpAnyH_take (i:=8) rfl Ak Ak Ak (fun _ _ _ h=>h) (Or.inr ⟨by rfl,rfl⟩) Ai ?_)|fail);exact Zz.1):p:=h ⟨k⟩
theorem jv(k:r)(h:Zq r→p:=by intro Zz;refine bM ?_;refine AX 10 O (Fz O) (AX 10 O (MQ O) (s_call (EP 10 Ak O) (hLn H.only) (PV O) ?_));exact Zz.1):p:=h ⟨k⟩
theorem xP(k:r)(h:Zq r→p:=by intro Zz;refine AX 10 O (F7 O O Y) (fE ?_);refine Aw (Az O (BF O (Az O ?_)));exact Zz.1):p:=h ⟨k⟩
theorem aO(k:r)(h:Zq r→p:=by intro Zz;refine D9 O (AL (CG (v:= .agg _) O O) (DK O O ?_));exact Zz.1):p:=h ⟨k⟩
theorem gX(k:r)(h:Zq r→p:=by intro Zz;refine Eh H 0 O O O O O O O DF ?_;exact Zz.1):p:=h ⟨k⟩
theorem oQ(k:r)(h:Zq r→p:=by intro Zz;refine jk ?_;refine AL (Dc O O Y) (BL O ?_);exact Zz.1):p:=h ⟨k⟩
theorem tZ(k:r)(h:Zq r→p:=by intro Zz;refine Dn H 0 O O O EY DF ?_;exact Zz.1):p:=h ⟨k⟩
theorem uo(k:r)(h:Zq r→p:=by intro Zz;unfold Ob.hp Ob.hq Ob.he;rw[hh,if_neg J,if_neg J,if_neg J];exact Zz.1):p:=h ⟨k⟩
theorem sH(k:r)(h:Zq r→p:=by intro Zz;refine ql ?_;refine AL (FP (abW) O) ?_;exact Zz.1):p:=h ⟨k⟩
theorem gy(k:r)(h:Zq r→p:=by intro Zz;refine AP (aT ?_);refine AO ?_;exact Zz.1):p:=h ⟨k⟩
theorem nR(k:r)(h:Zq r→p:=by intro Zz;refine AQ O (Au (gy ?_));exact Zz.1):p:=h ⟨k⟩
theorem oC(k:r)(h:Zq r→p:=by intro Zz;refine aX ?_;refine Au (AP (Aw (BL O ?_)));exact Zz.1):p:=h ⟨k⟩
theorem eH(k:r)(h:Zq r→p:=by intro Zz;refine D9 O (DK O O (DK O O (AQ O (AQ O ?_))));exact Zz.1):p:=h ⟨k⟩
theorem wQ(k:r)(h:Zq r→p:=by intro Zz;refine eH ?_;refine Au (gy ?_);exact Zz.1):p:=h ⟨k⟩
theorem lQ(k:r)(h:Zq r→p:=by intro Zz;refine O7 (enc:=(Value.int .i64)) H 0 O O O O O O O Y underlying22 GI O ?_;exact Zz.1):p:=h ⟨k⟩
theorem fP(k:r)(h:Zq r→p:=by intro Zz;refine Gf (v:= .slice _ _ _) (v2:= .int _ _) O O O ?_;exact Zz.1):p:=h ⟨k⟩
theorem xO(k:r)(h:Zq r→p:=by intro Zz;refine En O (AQ O (Au (BH (fP ?_))));exact Zz.1):p:=h ⟨k⟩
theorem dY(k:r)(h:Zq r→p:=by intro Zz;refine AP (Aw (Az O (AL (CO O O Y) (BL O (AX 10 O (Fz O) (AX 10 O (UN O) (AX 10 O (Ey O underlying128) (AX 10 O (F7 O O Y) (Dp O O (BL O (AX 16 O (UN O) (AX 16 O (Fz O) (AX 16 O (JY (i:=b) O O Y Y underlying128 EC) ?_)))))))))))));refine AX 16 O (JV O Oy) (AX 16 O (Hq H O c0 J GU) ?_);exact Zz.1):p:=h ⟨k⟩
theorem rJ(k:r)(h:Zq r→p:=by intro Zz;refine BM 54 func176 O (Aw (AQ O (BN O (Au (dY ?_)))));refine AX 16 O (Dc O O Y) (fE ?_);refine Aw (CY O (Az O ?_));exact Zz.1):p:=h ⟨k⟩
theorem kR(k:r)(h:Zq r→p:=by intro Zz;refine AL (JY (i:=b) O O Y Y underlying128 EC) (AL (JV O ad2) (AL (Hq H O c2 J GU) (bM ?_)));refine AX 31 O (Fz O) (AX 31 O (UN O) (AX 31 O (Ey O underlying128) (AX 31 O (Fz O) (AX 31 O (FH O O (wI Y)) ?_))));exact Zz.1):p:=h ⟨k⟩
theorem tC(k:r)(h:Zq r→p:=by intro Zz;refine AP (Aw (AQ O (Au (E8 ?_))));exact Zz.1):p:=h ⟨k⟩
theorem wR(k:r)(h:Zq r→p:=by intro Zz;refine fJ ?_;refine Az O (eX ?_);refine Aw (CY O (Az O (nI ?_)));refine AL (JY (i:=(b+i)) O O Y Y underlying128 EC) ?_;exact Zz.1):p:=h ⟨k⟩
theorem iL(k:r)(h:Zq r→p:=by intro Zz;refine Gf (v:= .int _ _) (v2:= .bool _) O O O ?_;exact Zz.1):p:=h ⟨k⟩
theorem sQ(k:r)(h:Zq r→p:=by intro Zz;refine ql ?_;refine AQ O (BN O (Au (BH (CX (iL ?_)))));exact Zz.1):p:=h ⟨k⟩
theorem oN(k:r)(h:Zq r→p:=by intro Zz;refine Dn H 1 O O O H6 G5 (Az O ?_);exact Zz.1):p:=h ⟨k⟩
theorem vk(k:r)(h:Zq r→p:=by intro Zz;refine BN O (Au (Aw (oN ?_)));exact Zz.1):p:=h ⟨k⟩
theorem dN(k:r)(h:Zq r→p:=by intro Zz;refine AX 25 O (Fz O) (AX 25 O (UN O) (AX 25 O (Ey O underlying128) (AX 25 O (F7 O O Y) (Dp O O ?_))));exact Zz.1):p:=h ⟨k⟩
theorem jT(k:r)(h:Zq r→p:=by intro Zz;refine bM ?_;refine dN ?_;refine dX ?_;refine jl ?_;exact Zz.1):p:=h ⟨k⟩
theorem tN(k:r)(h:Zq r→p:=by intro Zz;refine Eh H 0 O O O O O O O EC ?_;exact Zz.1):p:=h ⟨k⟩
theorem ny(k:r)(h:Zq r→p:=by intro Zz;refine Dn H 1 O O O EY DF ?_;exact Zz.1):p:=h ⟨k⟩
theorem xI(k:r)(h:Zq r→p:=by intro Zz;refine D9 O (AL (CG (v:= .agg _) O O) ?_);exact Zz.1):p:=h ⟨k⟩
theorem dP(k:r)(h:Zq r→p:=by intro Zz;refine Eo 1 O O O (fun _ hS=>BP (v:= .bool _) O) trivial (Eo 2 O O O (fun _ hS=>BP (v:= .bool _) O) trivial ?_);exact Zz.1):p:=h ⟨k⟩
theorem gV(k:r)(h:Zq r→p:=by intro Zz;refine Eo 6 O O (EP 60 Ak O) (fun _ hS=>afh O O Ak Ak Ak Ak underlying3 underlying3 underlying3 hde) trivial (Eo 7 O O O (fun _ hS=>HY (v:= .bool _) O O) trivial ?_);exact Zz.1):p:=h ⟨k⟩
theorem wS(k:r)(h:Zq r→p:=by intro Zz;refine AX 60 O (Je H 1 O O O Iy EC) (aj ?_);refine gV ?_;exact Zz.1):p:=h ⟨k⟩
theorem kJ(k:r)(h:Zq r→p:=by intro Zz;refine Eo 9 O O O (fun _ hS=>DJ (v:= .bool _) O) trivial (CJ (AO (BH (CX (NJ O (IG H 3 O O O EY DF) (Jp (v:= .bool _) O) ?_)))));exact Zz.1):p:=h ⟨k⟩
theorem cZ(k:r)(h:Zq r→p:=by intro Zz;refine AL (JY (i:=b) O O Y Y underlying128 EC) (AL (SB (enc:=fun v:Value=>v) (zs:=[.int .i64 h.1,.int .i64 h.2.1,.int .i64 h.2.2]) (hre.later H.only J) O O Iy EC) ?_);exact Zz.1):p:=h ⟨k⟩
theorem ug(k:r)(h:Zq r→p:=by intro Zz;refine nR ?_;refine Aw (CY O (Az O (cZ ?_)));exact Zz.1):p:=h ⟨k⟩
theorem xA(k:r)(h:Zq r→p:=by intro Zz;refine oC ?_;refine dX ?_;refine Aw (CY O (Az O ?_));exact Zz.1):p:=h ⟨k⟩
theorem iJ(k:r)(h:Zq r→p:=by intro Zz;refine dP ?_;refine Eo 3 O O (EP 74 Ak O) (fun _ hS=>BP (v:= .int _ _) O) trivial (Eo 5 O O (EP 74 Ak O) (fun _ hS=>BP (v:= .int _ _) O) trivial ?_);exact Zz.1):p:=h ⟨k⟩
theorem kL(k:r)(h:Zq r→p:=by intro Zz;refine aj ?_;refine Bd 4 O ?_;exact Zz.1):p:=h ⟨k⟩
theorem nH(k:r)(h:Zq r→p:=by intro Zz;refine aj ?_;refine Bd 6 O ?_;exact Zz.1):p:=h ⟨k⟩
theorem jZ(k:r)(h:Zq r→p:=by intro Zz;refine s_call (EP 74 Ak O) (hFi _) (X3 O) ?_;exact Zz.1):p:=h ⟨k⟩
theorem nX(k:r)(h:Zq r→p:=by intro Zz;refine BO O (ny ?_);refine kL ?_;refine AX 74 O (Je H 3 O O O H6 G5) (nH ?_);refine jZ ?_;exact Zz.1):p:=h ⟨k⟩
theorem aY(k:r)(h:Zq r→p:=by intro Zz;refine Eo 7 O O (EP 74 Ak O) (fun _ hS=>Fv O O Y) trivial (Eo 8 O O O (fun _ hS=>HY (v:= .bool _) O O) trivial (Eo 9 O O O (fun _ hS=>BP (v:= .bool _) O) trivial (Eo 10 O O (EP 81 Ak O) (fun _ hS=>BP (v:= .int _ _) O) trivial ?_)));exact Zz.1):p:=h ⟨k⟩
theorem fC(k:r)(h:Zq r→p:=by intro Zz;refine Bd 11 O (AX 81 O (Je H 1 O O O EY DF) (aj ?_));refine Bd 12 O (s_call (EP 81 Ak O) (hBl _) (WT O) ?_);exact Zz.1):p:=h ⟨k⟩
theorem lK(k:r)(h:Zq r→p:=by intro Zz;refine Eo 13 O O (EP 81 Ak O) (fun _ hS=>Fv O O Y) trivial ?_;exact Zz.1):p:=h ⟨k⟩
theorem dH(k:r)(h:Zq r→p:=by intro Zz;refine Eo 14 O O O (fun _ hS=>HY (v:= .bool _) O O) trivial (Bd 15 O (Eh H 2 O O O O O O O DF ?_));exact Zz.1):p:=h ⟨k⟩
theorem aV(k:r)(h:Zq r→p:=by intro Zz;refine aj ?_;refine Eo 16 O O O (fun _ hS=>DJ (v:= .bool _) O) trivial (CJ (AO (BH (NJ O (IG H 2 O O O EY DF) (Jp (v:= .bool _) O) ?_))));exact Zz.1):p:=h ⟨k⟩
theorem pJ(k:r)(h:Zq r→p:=by intro Zz;refine Bd 0 O (ny ?_);refine aj ?_;refine Bd 15 O (Eh H 2 O O O O O O O DF ?_);exact Zz.1):p:=h ⟨k⟩
theorem lJ(k:r)(h:Zq r→p:=by intro Zz;refine Eo 13 O O (EP 81 Ak O) (fun _ hS=>Fb O O Y) trivial ?_;exact Zz.1):p:=h ⟨k⟩
theorem bT(k:r)(h:Zq r→p:=by intro Zz;refine Eo 9 O O O (fun _ hS=>BP (v:= .bool _) O) trivial (ZK 10 O O (FI 81 Ak O O) trivial (ZK 11 O O (FI 81 Ak O O) trivial (ZK 12 O O (FI 81 Ak O O) trivial (ZK 13 O O (FI 81 Ak O O) trivial (Eo 14 O O O (fun _ hS=>Ku (v:= .bool _) O O) trivial ?_)))));exact Zz.1):p:=h ⟨k⟩
theorem jd(k:r)(h:Zq r→p:=by intro Zz;refine Eo 7 O O (EP 74 Ak O) (fun _ hS=>Fb O O Y) trivial (Eo 8 O O O (fun _ hS=>HY (v:= .bool _) O O) trivial (bT ?_));exact Zz.1):p:=h ⟨k⟩
theorem ig(k:r)(h:Zq r→p:=by intro Zz;refine fJ ?_;refine CY O (Di O underlying128 (eX ?_));refine E8 (Aw (CY O (Az O (AL (JY (i:=i) O O Y Y underlying128 EC) (AL (JV O Oy) (AL (Hq H O c0 J GU) ?_))))));exact Zz.1):p:=h ⟨k⟩
theorem uF(k:r)(h:Zq r→p:=by intro Zz;refine AL (Dc O O Y) (BN O (Au (DX O ?_)));exact Zz.1):p:=h ⟨k⟩
theorem rG(k:r)(h:Zq r→p:=by intro Zz;refine AP (WY mixed Ak H ?_);exact Zz.1):p:=h ⟨k⟩
theorem jc(k:r)(h:Zq r→p:=by intro Zz;refine BK (fun _ H=>BP (v:= .slice _ _ _) O) ?_;exact Zz.1):p:=h ⟨k⟩
theorem iV(k:r)(h:Zq r→p:=by intro Zz;refine Ip O (FI 27 Ak O O) (Ip O (FI 27 Ak O O) (Ip O (FI 27 Ak O O) (Ip O (FI 27 Ak O O) ?_)));exact Zz.1):p:=h ⟨k⟩
theorem qL(k:r)(h:Zq r→p:=by intro Zz;refine AO (DX O (DR (CY O (Az O (AL (FP (acO _ _) O) (WS (enc:=(Value.int .i64)) (size:=2) (zs:=[(i:Int),1]) H O O O Y Ak underlying262 aaZ ?_))))));exact Zz.1):p:=h ⟨k⟩
theorem bK(k:r)(h:Zq r→p:=by intro Zz;refine BK (fun _ H=>Ey O underlying262) (BK (fun _ H=>Jl O O Y) (BK (fun _ H=>BP (v:= .bool _) O) (GN 27 O (fun _ H=>BP (v:= .slice _ _ _) O) (GN 27 O (fun _ H=>BP (v:= .slice _ _ _) O) (GN 27 O (fun _ H=>Ey O underlying262) (GN 27 O (fun _ H=>FH O O (wI Y)) (GN 27 O (fun _ H=>PS (i:=a.length) O O Y Y underlying262 XR) (GN 27 O (fun _ H=>JV O aeE) (GN 27 O (fun _ H=>afA H 0 O O m1 GU) (GN 27 O (fun _ H=>BP (v:= .slice _ _ _) O) (GN 27 O (fun _ H=>BP (v:= .slice _ _ _) O) (GN 27 O (fun _ H=>Ey O underlying262) (GN 27 O (fun _ H=>FH O O (wI Y)) ?_)))))))))))));refine GN 27 O (fun _ H=>PS (i:=a.length) O O Y Y underlying262 XR) (GN 27 O (fun _ H=>JV O Yn) (GN 27 O (fun _ H=>afA H 0 O O m2 GU) (GN 27 O (fun _ H=>Dk O O (wI Y)) (GN 27 O (fun _ H=>BP (v:= .int _ _) O) ?_))));exact Zz.1):p:=h ⟨k⟩
theorem uV(k:r)(h:Zq r→p:=by intro Zz;refine BK (fun _ H=>HY (v:= .bool _) O O) ?_;exact Zz.1):p:=h ⟨k⟩
theorem oI(k:r)(h:Zq r→p:=by intro Zz;refine CY O (Di O underlying128 ?_);exact Zz.1):p:=h ⟨k⟩
theorem vY(k:r)(h:Zq r→p:=by intro Zz;refine mW ?_;refine aC ?_;exact Zz.1):p:=h ⟨k⟩
theorem dM(k:r)(h:Zq r→p:=by intro Zz;refine Gf (v:= .pointer _) (v2:= .int _ _) O O O ?_;exact Zz.1):p:=h ⟨k⟩
theorem qZ(k:r)(h:Zq r→p:=by intro Zz;refine EX O (AQ O (Au (BH (dM ?_))));exact Zz.1):p:=h ⟨k⟩
theorem wE(k:r)(h:Zq r→p:=by intro Zz;rw[rounds_succ];exact Zz.1):p:=h ⟨k⟩
theorem dG(k:r)(h:Zq r→p:=by intro Zz;(first|(refine wpAnyH_take (i:=0) (v:=?_) rfl Ak Ak Ak (fun _ _ _ h=>h) (Or.inl ⟨by rfl,?_⟩) Ai ?_;rotate_left;(focus (intro w hSw;(try dsimp only at hSw);go_simp;first|done|with_reducible rfl)))|(refine wpAnyH_take (i:=0) rfl Ak Ak Ak (fun _ _ _ h=>h) (Or.inr ⟨by rfl,rfl⟩) Ai ?_)|fail);exact Zz.1):p:=h ⟨k⟩
theorem bZ(k:r)(h:Zq r→p:=by intro Zz;refine ah ?_;(first|(refine wpAnyH_take (i:=2) (v:=?_) rfl Ak Ak Ak (fun _ _ _ h=>h) (Or.inl ⟨by rfl,?_⟩) Ai ?_;rotate_left;(focus (intro w hSw;(try dsimp only at hSw);go_simp;first|done|with_reducible rfl)))|(refine wpAnyH_take (i:=2) rfl Ak Ak Ak (fun _ _ _ h=>h) (Or.inr ⟨by rfl,rfl⟩) Ai ?_)|fail);refine ah ?_;refine bH ?_;refine ah ?_;exact Zz.1):p:=h ⟨k⟩
theorem aK(k:r)(h:Zq r→p:=by intro Zz;(first|(refine wpAnyH_take (i:=4) (v:=?_) rfl Ak Ak Ak (fun _ _ _ h=>h) (Or.inl ⟨by rfl,?_⟩) Ai ?_;rotate_left;(focus (intro w hSw;(try dsimp only at hSw);go_simp;first|done|with_reducible rfl)))|(refine wpAnyH_take (i:=4) rfl Ak Ak Ak (fun _ _ _ h=>h) (Or.inr ⟨by rfl,rfl⟩) Ai ?_)|fail);exact Zz.1):p:=h ⟨k⟩
theorem qQ(k:r)(h:Zq r→p:=by intro Zz;refine(Y5 _ _ _ _ _ _ _ _ _ _ hl0 hE0 ⟨hl1.1,g0⟩ ⟨hl2.1,g1⟩ ⟨hl3.1,g2⟩ ⟨hl4.1,g3⟩ ⟨hl9.1,g4⟩ ⟨VL.1,g5⟩ ⟨VG.1,g6⟩ ⟨hl12.1,g7⟩).mono ?_;exact Zz.1):p:=h ⟨k⟩
theorem fQ(k:r)(h:Zq r→p:=by intro Zz;refine ah ?_;(first|(refine wpAnyH_take (i:=7) (v:=?_) rfl Ak Ak Ak (fun _ _ _ h=>h) (Or.inl ⟨by rfl,?_⟩) Ai ?_;rotate_left;(focus (intro w hSw;(try dsimp only at hSw);go_simp;first|done|with_reducible rfl)))|(refine wpAnyH_take (i:=7) rfl Ak Ak Ak (fun _ _ _ h=>h) (Or.inr ⟨by rfl,rfl⟩) Ai ?_)|fail);refine ah ?_;refine aN ?_;refine ah ?_;exact Zz.1):p:=h ⟨k⟩
theorem rF(k:r)(h:Zq r→p:=by intro Zz;refine alz (Value.int .i64) 0 3 (m:=n) H O O O Y Y Y underlying128 J9 O Y ?_;exact Zz.1):p:=h ⟨k⟩
theorem wZ(k:r)(h:Zq r→p:=by intro Zz;refine fJ ?_;refine BR O Ou (BD H 1 O O O GU ?_);exact Zz.1):p:=h ⟨k⟩
theorem rD(k:r)(h:Zq r→p:=by intro Zz;refine nR ?_;refine DR (CY O (Az O (Dn H 0 O O O Iy EC (AL (PS (i:=i) O O Y Y underlying128 EC) (aoT (q:=h) H 1 O O O O hlen EC ?_)))));exact Zz.1):p:=h ⟨k⟩
theorem nV(k:r)(h:Zq r→p:=by intro Zz;refine nG ?_;refine BF O ?_;exact Zz.1):p:=h ⟨k⟩
theorem qR(k:r)(h:Zq r→p:=by intro Zz;refine Dn H 0 O O O H6 G5 ?_;exact Zz.1):p:=h ⟨k⟩
theorem kG(k:r)(h:Zq r→p:=by intro Zz;refine D9 O (AL (CG (v:= .slice _ _ _) O O) (DK O O ?_));exact Zz.1):p:=h ⟨k⟩
theorem wC(k:r)(h:Zq r→p:=by intro Zz;refine BR O Rx (BD (HR.same H.only) 0 O O O Vo ?_);exact Zz.1):p:=h ⟨k⟩
theorem nC(k:r)(h:Zq r→p:=by intro Zz;refine AL (JY (i:=0) O O Y Y underlying128 EC) (AL (SB (enc:=fun v:Value=>v) (zs:=[.int .i64 h.1,.int .i64 h.2.1,.int .i64 h.2.2]) (hrd.later H.only hqF) O O Iy EC) ?_);exact Zz.1):p:=h ⟨k⟩
theorem mD(k:r)(h:Zq r→p:=by intro Zz;refine AL (Fb O O Y) (dX ?_);exact Zz.1):p:=h ⟨k⟩
theorem bI(k:r)(h:Zq r→p:=by intro Zz;refine Dj 0 O O O (fun _ hS=>BP (v:= .pointer _) O) trivial (Dj 1 O O O (fun _ hS=>ES O) trivial ?_);exact Zz.1):p:=h ⟨k⟩
theorem oD(k:r)(h:Zq r→p:=by intro Zz;refine BO O (BD H 2 O O O Kt (aj ?_));exact Zz.1):p:=h ⟨k⟩
theorem nZ(k:r)(h:Zq r→p:=by intro Zz;refine AL (JU H 2 (vs:=[.int .i64 n]) O O O O H6 G5) ?_;exact Zz.1):p:=h ⟨k⟩
theorem mX(k:r)(h:Zq r→p:=by intro Zz;refine Dn H 0 O O O Iy EC (aj ?_);exact Zz.1):p:=h ⟨k⟩
theorem dQ(k:r)(h:Zq r→p:=by intro Zz;refine Bd 17 O (s_call O (hSt (H.Bl 1 O)) (JM O) ?_);exact Zz.1):p:=h ⟨k⟩
theorem oM(k:r)(h:Zq r→p:=by intro Zz;refine aj ?_;refine dQ ?_;exact Zz.1):p:=h ⟨k⟩
theorem bP(k:r)(h:Zq r→p:=by intro Zz;refine aj ?_;refine Dj 18 O O O (fun _ hS=>DJ (v:= .int _ _) O) trivial (CJ (Dt ?_));exact Zz.1):p:=h ⟨k⟩
theorem qE(k:r)(h:Zq r→p:=by intro Zz;refine Dj 4 O O O (fun _ hS=>BP (v:= .int _ _) O) trivial ?_;exact Zz.1):p:=h ⟨k⟩
theorem o7(k:r)(h:Zq r→p:=by intro Zz;refine aj ?_;refine Bd 7 O ?_;exact Zz.1):p:=h ⟨k⟩
theorem uP(k:r)(h:Zq r→p:=by intro Zz;refine Dj 8 O O O (fun _ hS=>PS (i:=b) O O Y Y underlying128 EC) trivial (Bd 9 O (aoT (q:=h) H 3 O O O O hbl EC ?_));exact Zz.1):p:=h ⟨k⟩
theorem kV(k:r)(h:Zq r→p:=by intro Zz;refine aj ?_;refine CJ (Dt ?_);exact Zz.1):p:=h ⟨k⟩
theorem wJ(k:r)(h:Zq r→p:=by intro Zz;refine aj ?_;refine Bd 12 O (s_call O (hPe (H.Bl 0 O)) (UL O) ?_);exact Zz.1):p:=h ⟨k⟩
theorem oh(k:r)(h:Zq r→p:=by intro Zz;refine Eo 13 O O O (fun _ hS=>DJ (v:= .int _ _) O) trivial (CJ (AO (BH (aQ ?_))));exact Zz.1):p:=h ⟨k⟩
theorem dU(k:r)(h:Zq r→p:=by intro Zz;refine D9 O (AL (CG (v:= .pointer _) O O) (DK O O (EX O ?_)));exact Zz.1):p:=h ⟨k⟩
theorem fF(k:r)(h:Zq r→p:=by intro Zz;refine Dj 9 O O O (fun _ hS=>DJ (v:= .int _ _) O) trivial (CJ (Dt ?_));exact Zz.1):p:=h ⟨k⟩
theorem iY(k:r)(h:Zq r→p:=by intro Zz;refine Dj 5 O O O (fun _ hS=>BP (v:= .tuple _) O) trivial (Dj 6 O O O (fun _ hS=>CG (v:= .pointer _) O O) trivial (Dj 7 O O O (fun _ hS=>CG (v:= .int _ _) O O) trivial (Dj 8 O O O (fun _ hS=>DJ (v:= .pointer _) O) trivial (fF ?_))));exact Zz.1):p:=h ⟨k⟩
theorem tH(k:r)(h:Zq r→p:=by intro Zz;refine aj ?_;refine Bd 1 O ?_;exact Zz.1):p:=h ⟨k⟩
theorem iE(k:r)(h:Zq r→p:=by intro Zz;refine aj ?_;refine Bd 5 O ?_;exact Zz.1):p:=h ⟨k⟩
theorem nP(k:r)(h:Zq r→p:=by intro Zz;refine WS (enc:=(Value.int .i64)) (size:=3) (zs:=[1,k,0]) H O O O Y Ak underlying128 J9 ?_;exact Zz.1):p:=h ⟨k⟩
theorem lY(k:r)(h:Zq r→p:=by intro Zz;refine Dj 8 O O O (fun _ hS=>DJ (v:= .int _ _) O) trivial (CJ (Dt ?_));exact Zz.1):p:=h ⟨k⟩
theorem oJ(k:r)(h:Zq r→p:=by intro Zz;refine ED O O (gZ ?_);exact Zz.1):p:=h ⟨k⟩
theorem sS(k:r)(h:Zq r→p:=by intro Zz;refine BM 15 func264 O (qU ?_);refine Aw (kK ?_);refine AX 7 O (Fz O) (AX 7 O (Df O O Y) (ED O O (BL O (AX 11 O (Fz O) (s_call (EP 11 Ak O) (hC _) (Zo O) ?_)))));exact Zz.1):p:=h ⟨k⟩
theorem eU(k:r)(h:Zq r→p:=by intro Zz;refine Di O underlying22 ?_;exact Zz.1):p:=h ⟨k⟩
theorem kM(k:r)(h:Zq r→p:=by intro Zz;refine AP (Aw (CY O (eU ?_)));exact Zz.1):p:=h ⟨k⟩
theorem uj(k:r)(h:Zq r→p:=by intro Zz;refine kM ?_;refine tV ?_;exact Zz.1):p:=h ⟨k⟩
theorem xM(k:r)(h:Zq r→p:=by intro Zz;refine lW ?_;refine oG ?_;refine CY O (Az O (AL (Gp (i:=i) O O Y Y underlying22 Kz) (AL (Hq H O hc J GU) ?_)));exact Zz.1):p:=h ⟨k⟩
theorem iD(k:r)(h:Zq r→p:=by intro Zz;refine Au (EI O (Aw (BN O (Au (BH (CX (bQ ?_)))))));exact Zz.1):p:=h ⟨k⟩
theorem qo(k:r)(h:Zq r→p:=by intro Zz;refine gK ?_;refine AP (jl ?_);refine Dl O (BR O OU (AL (OY (i:=j) O O Y Y underlying312 Lh) (AL (Ef (HR.same H.only) 0 O O (KO hj) Fg) (Az O ?_))));exact Zz.1):p:=h ⟨k⟩
theorem nT(k:r)(h:Zq r→p:=by intro Zz;refine eY ?_;refine BR O OC (AL (Ef (HR.same H.only) 0 O O (Kr F b) OL) (Az O (Az O (AL (FP (TN _ _) O) ?_))));exact Zz.1):p:=h ⟨k⟩
theorem xu(k:r)(h:Zq r→p:=by intro Zz;refine lW ?_;refine AQ O (Au (nT ?_));refine AL (TF (HR.same H.only) 1 O O O (gd) (hg) underlying311 (JL UU) O) (Az O ?_);exact Zz.1):p:=h ⟨k⟩
theorem qh(k:r)(h:Zq r→p:=by intro Zz;refine Eo 0 O O O (fun _ hS=>BP (v:= .pointer _) O) trivial ?_;exact Zz.1):p:=h ⟨k⟩
theorem fU(k:r)(h:Zq r→p:=by intro Zz;refine Eo 3 O O O (fun _ hS=>BP (v:= .int _ _) O) trivial ?_;exact Zz.1):p:=h ⟨k⟩
theorem sG(k:r)(h:Zq r→p:=by intro Zz;refine Eo 2 O O O (fun _ hS=>BP (v:= .pointer _) O) trivial (fU ?_);exact Zz.1):p:=h ⟨k⟩
theorem sF(k:r)(h:Zq r→p:=by intro Zz;refine LC (enc:=(Value.int .i64)) (zs:=[a]) H O O O Y Ak underlying22 GI ?_;exact Zz.1):p:=h ⟨k⟩
theorem qC(k:r)(h:Zq r→p:=by intro Zz;refine aj ?_;refine Bd 10 O ?_;exact Zz.1):p:=h ⟨k⟩
theorem nD(k:r)(h:Zq r→p:=by intro Zz;refine KX (enc:=(Value.int .i64)) (size:=1) H 0 O O O O (fun _=>rfl) Y Y underlying22 GI O ?_;exact Zz.1):p:=h ⟨k⟩
theorem ni(k:r)(h:Zq r→p:=by intro Zz;refine Eo 13 O O O (fun _ hS=>OY (i:=j) O O Y Y underlying312 Lh) trivial (Bd 14 O (ah1 H 1 O O O O (KO hj) (aao (r:=⟨A2,(F (j*5)).n+1,c2,(F (j*5)).xs++ [a]⟩) hj) O Lh ?_));exact Zz.1):p:=h ⟨k⟩
theorem xG(k:r)(h:Zq r→p:=by intro Zz;refine BK (fun _ H=>Ey O underlying22) ?_;exact Zz.1):p:=h ⟨k⟩
theorem wF(k:r)(h:Zq r→p:=by intro Zz;refine Dl O (BR O OU (AL (OY (i:=k) O O Y Y underlying312 Lh) (AL (Ef H 2 O O (KO J6) Fg) (eU ?_))));exact Zz.1):p:=h ⟨k⟩
theorem lT(k:r)(h:Zq r→p:=by intro Zz;refine Dj 6 O O O (fun _ hS=>BP (v:= .int _ _) O) trivial ?_;exact Zz.1):p:=h ⟨k⟩
theorem uh(k:r)(h:Zq r→p:=by intro Zz;refine BO O (AL (Ef H 2 O O (Kr F b) OL) (aj ?_));exact Zz.1):p:=h ⟨k⟩
theorem iq(k:r)(h:Zq r→p:=by intro Zz;refine AL (Ef H 2 O O (KO J6) Fg) (aj ?_);refine Dj 12 O O O (fun _ hS=>aaU (i:=fr) O O Y Y underlying22 Kz) trivial ?_;exact Zz.1):p:=h ⟨k⟩
theorem bV(k:r)(h:Zq r→p:=by intro Zz;refine s_call O (QH _ _ _ ((F (k*5)).xs.drop fr) _ ((JX H 1 O).slo fr Y) hdl Y) (VR O) ?_;exact Zz.1):p:=h ⟨k⟩
theorem bD(k:r)(h:Zq r→p:=by intro Zz;refine Bd 14 O (U6 (q:=⟨A1,(F (k*5)).n-fr,c1,(F (k*5)).xs.drop fr⟩) H 4 O O O O O (gd) underlying311 ?_);exact Zz.1):p:=h ⟨k⟩
theorem qV(k:r)(h:Zq r→p:=by intro Zz;refine aj ?_;refine bD ?_;exact Zz.1):p:=h ⟨k⟩
theorem xJ(k:r)(h:Zq r→p:=by intro Zz;refine BO O (Dn H 0 O O O Ql OX (aj ?_));exact Zz.1):p:=h ⟨k⟩
theorem wK(k:r)(h:Zq r→p:=by intro Zz;refine qx ?_;refine AL (Ef H 3 O O (Kr F b) OL) (qV ?_);exact Zz.1):p:=h ⟨k⟩
theorem fM(k:r)(h:Zq r→p:=by intro Zz;refine AO (abM 13 mixed Ak H O O (BK (fun _ H=>BP (v:= .pointer _) O) (eG ?_)));refine BK (fun _ H=>BP (v:= .pointer _) O) (eG ?_);refine BK (fun _ H=>ES O) (BK (fun _ H=>CB O OU) (BK (fun _ H=>OY (i:=k) O O Y Y underlying312 Lh) (BK (fun _ H=>Ef H 3 O O (KO J6) Fg) (eG ?_))));refine BK (fun _ H=>Y1 (j:=fr) O O O Y underlying22 Kz) (BK (fun _ H=>ES O) (BK (fun _ H=>CB O OU) (BK (fun _ H=>OY (i:=k) O O Y Y underlying312 Lh) (H8 ?_))));exact Zz.1):p:=h ⟨k⟩
theorem jV(k:r)(h:Zq r→p:=by intro Zz;refine aP ?_;refine BK (fun _ H=>CB O OC) (BK (fun _ H=>Ef H 3 O O (Kr _ b) OL) (BK (fun _ H=>Je H 1 O O O Ql OX) ?_));exact Zz.1):p:=h ⟨k⟩
theorem jP(k:r)(h:Zq r→p:=by intro Zz;refine aP ?_;refine BK (fun _ H=>CB O OC) (BK (fun _ H=>Ef H 2 O O (Kr _ b) OL) (BK (fun _ H=>Je H 0 O O O Ql OX) ?_));exact Zz.1):p:=h ⟨k⟩
theorem ru(k:r)(h:Zq r→p:=by intro Zz;refine BM 15 func123 O (qU ?_);refine Aw (kK ?_);refine AX 7 O (Fz O) (AX 7 O (MQ O) (AX 7 O (ES O) (AX 7 O (CB O aau) (AX 7 O (Ef (HR.same H.only) 0 O O O GU) ?_))));exact Zz.1):p:=h ⟨k⟩
theorem eP(k:r)(h:Zq r→p:=by intro Zz;refine AX 8 O (MQ O) (AX 8 O (ES O) (AX 8 O (CB O PD) (AX 8 O (Ef (HR.same H.only) 0 O O O JE) (AX 8 O (Fz O) (AX 8 O (Rf O O Y (wI Y)) (AX 8 O (FC (i:=i/64) O O Y Y underlying55 GV) (AX 8 O (Nq (HR.same H.only) 1 O O (Bm.Vp l _ hnw) GR) (AX 8 O (Fz O) (AX 8 O (QV O O Y) (AX 8 O (Ro O Ak underlying179 (wU Y)) (Hf O (EP 8 Ak O) (alU (s:=i%64) O O Y zH (fdiv_pow _ _)) (AX 8 O (aqu O O hb) ?_))))))))))));exact Zz.1):p:=h ⟨k⟩
theorem mY(k:r)(h:Zq r→p:=by intro Zz;refine eY ?_;refine BR O PD (BD H 0 O O O JE (Az O (AL (Rf O O Y (wI Y)) (AL (FC (i:=i/64) O O Y Y underlying55 GV) (AL (Nq H 1 O O hgz GR) (Az O (AL (QV O O Y) (AL (Ro O Ak underlying179 (wU Y)) (Hf O O (am6 (s:=i%64) O O Y zH hpw) ?_)))))))));exact Zz.1):p:=h ⟨k⟩
theorem xE(k:r)(h:Zq r→p:=by intro Zz;refine AL (FC (i:=i/64) O O Y Y underlying55 GV) (adG (u:= .int _ _) H 1 O O O O O Y (fun _=>rfl) GV ?_);exact Zz.1):p:=h ⟨k⟩
theorem uK(k:r)(h:Zq r→p:=by intro Zz;refine BM 56 func269 O (Aw (AQ O (BN O (Au (Aw (Az O (AL (ZB (c:=(a:Int)) O O hmax) (jk ?_))))))));refine BF O (Dl O (BR O aau (BD (HR.same H.only) 0 O O O GU ?_)));exact Zz.1):p:=h ⟨k⟩
theorem uG(k:r)(h:Zq r→p:=by intro Zz;refine EI O (Bj (AO (E8 (Aw (nI ?_)))));refine jk ?_;refine BF O (Dl O (BR O PD (BD (HR.same H.only) 0 O O O JE (Di O underlying55 ?_))));exact Zz.1):p:=h ⟨k⟩
theorem pO(k:r)(h:Zq r→p:=by intro Zz;refine Aw (AL (afu O) (AL (DJ (v:= .func _ _ _) O) ?_));exact Zz.1):p:=h ⟨k⟩
theorem xQ(k:r)(h:Zq r→p:=by intro Zz;refine Au (DX O (DZ (Cb (Cb (EG ?_)))));exact Zz.1):p:=h ⟨k⟩
theorem wB(k:r)(h:Zq r→p:=by intro Zz;refine Ic (u:= .slice _ _ _) H 0 O O O O O O Lh ?_;exact Zz.1):p:=h ⟨k⟩
theorem pV(k:r)(h:Zq r→p:=by intro Zz;refine EI O (Bj (AO (AP (E8 (eY ?_)))));refine BR O ZW (AL (JU H 0 (vs:=[.int .i64 s.n]) O O O O H6 G5) (Az O (Az O (Az O (AL (FP (acF _ _) O) ?_)))));exact Zz.1):p:=h ⟨k⟩
theorem sW(k:r)(h:Zq r→p:=by intro Zz;refine oC ?_;refine gK ?_;refine AP (eY ?_);refine BR O Z4 (BD H 2 O O O aiL (Az O (Az O (s_call O (hT (H.Bl 8 O)) (als O) ?_))));exact Zz.1):p:=h ⟨k⟩
theorem xC(k:r)(h:Zq r→p:=by intro Zz;refine AX 28 O (JU H 2 (vs:=[.int .i64 s.n]) O O O O H6 G5) ?_;exact Zz.1):p:=h ⟨k⟩
theorem gI(k:r)(h:Zq r→p:=by intro Zz;refine Dj 11 O O (EP 28 Ak O) (fun _ hS=>ER O O Y) trivial (Dj 12 O O O (fun _ hS=>Ku (v:= .bool _) O O) trivial (Dj 13 O O O (fun _ hS=>DJ (v:= .bool _) O) trivial (CJ (Dt ?_))));exact Zz.1):p:=h ⟨k⟩
theorem vO(k:r)(h:Zq r→p:=by intro Zz;refine Dj 0 O O O (fun _ hS=>BP (v:= .pointer _) O) (H.Ew [1] O O) (Dj 1 O O O (fun _ hS=>ES O) (H.Ew [1] O O) ?_);exact Zz.1):p:=h ⟨k⟩
theorem vN(k:r)(h:Zq r→p:=by intro Zz;refine Dj 4 O O O (fun _ hS=>BP (v:= .pointer _) O) (H.Ew [1] O O) (Dj 5 O O O (fun _ hS=>ES O) (H.Ew [1] O O) ?_);exact Zz.1):p:=h ⟨k⟩
theorem vM(k:r)(h:Zq r→p:=by intro Zz;refine Dj 8 O O O (fun _ hS=>BP (v:= .pointer _) O) (H.Ew [1] O O) (Dj 9 O O O (fun _ hS=>ES O) (H.Ew [1] O O) ?_);exact Zz.1):p:=h ⟨k⟩
theorem qF(k:r)(h:Zq r→p:=by intro Zz;refine AA (Bc (H.Ew [1] O O) ?_);exact Zz.1):p:=h ⟨k⟩
theorem gW(k:r)(h:Zq r→p:=by intro Zz;refine ak ?_;refine AL (Gp (i:=i) O O Y Y underlying22 Kz) ?_;exact Zz.1):p:=h ⟨k⟩
theorem xw(k:r)(h:Zq r→p:=by intro Zz;refine fJ ?_;refine BF O (Dl O (BR O RY (BD H 2 O O O WX ?_)));exact Zz.1):p:=h ⟨k⟩
theorem qp(k:r)(h:Zq r→p:=by intro Zz;refine jk ?_;refine AL (Fb O O Y) (BL O (AX 11 O (MQ O) (AX 11 O (ES O) (AX 11 O (CB O ZV) (AX 11 O (Ef H 1 O O O ajd) (AX 11 O (Fz O) ?_))))));exact Zz.1):p:=h ⟨k⟩
theorem jX(k:r)(h:Zq r→p:=by intro Zz;refine AA (Bc (H.Ew [1] O O) (Dj 14 O O O (fun _ hS=>BP (v:= .tuple _) O) (H.Ew [1] O O) (Dj 15 O O O (fun _ hS=>CG (v:= .agg _) O O) (H.Ew [1] O O) (Dj 16 O O O (fun _ hS=>CG (v:= .bool _) O O) (H.Ew [1] O O) ?_))));exact Zz.1):p:=h ⟨k⟩
theorem iQ(k:r)(h:Zq r→p:=by intro Zz;refine BD H 0 O O O Fg (eU ?_);exact Zz.1):p:=h ⟨k⟩
theorem kZ(k:r)(h:Zq r→p:=by intro Zz;refine BK (fun _ H=>CB O Qu) (BK (fun _ H=>Ef H 0 O O O Fg) (aP ?_));refine BK (fun _ H=>CB O Qu) (BK (fun _ H=>Ef H 0 O O O Fg) (BK (fun _ H=>Ey O underlying22) (BK (fun _ H=>FH O O (wI Y)) ?_)));exact Zz.1):p:=h ⟨k⟩
theorem vW(k:r)(h:Zq r→p:=by intro Zz;refine BK (fun _ H=>DJ (v:= .int _ _) O) ?_;exact Zz.1):p:=h ⟨k⟩
theorem qM(k:r)(h:Zq r→p:=by intro Zz;refine dw ?_;refine AP (eY ?_);refine BR O adI (BD (Heap.start (H.Bl 0 O)) 0 O O O alf (AL (ani (Heap.start (H.Bl 0 O)) 3 O O underlying328) ?_));exact Zz.1):p:=h ⟨k⟩
theorem x9(k:r)(h:Zq r→p:=by intro Zz;refine Au (EI O (Bj (AO (E8 ?_))));exact Zz.1):p:=h ⟨k⟩
theorem vg(k:r)(h:Zq r→p:=by intro Zz;refine ak ?_;refine AL (Gp O O O Y underlying22 Kz) (AL (Hq H O cx J GU) (rU ?_));refine s_call O (hR H) (aqL O) ?_;exact Zz.1):p:=h ⟨k⟩
theorem oK(k:r)(h:Zq r→p:=by intro Zz;refine AX 38 O (MQ O) (AX 38 O (ES O) (AX 38 O (CB O Uz) (AX 38 O (Ef H 1 O O O PN) (AX 38 O (Fz O) (s_call (EP 38 Ak O) (hAd (H.Bl 2 O)) (ajf O) ?_)))));exact Zz.1):p:=h ⟨k⟩
theorem qJ(k:r)(h:Zq r→p:=by intro Zz;refine AQ O (BN O (Au (Aw (AL (Je H 2 O O (by simp[la]) TP QJ) ?_))));exact Zz.1):p:=h ⟨k⟩
theorem jY(k:r)(h:Zq r→p:=by intro Zz;refine Eh H 0 O O O O O O O GY ?_;exact Zz.1):p:=h ⟨k⟩
theorem oO(k:r)(h:Zq r→p:=by intro Zz;refine nG ?_;refine AL (Je H 2 O O (by simp[lb]) TP QJ) ?_;exact Zz.1):p:=h ⟨k⟩
theorem mJ(k:r)(h:Zq r→p:=by intro Zz;refine kU ?_;refine AL (Fv O O Y) (BL O (AX 24 O (Fz O) (AX 24 O (Dc O O Y) (AX 24 O (WU O) (AX 27 O (CB O MG) (AX 27 O (Ef H 1 O O O GR) (AX 27 O (CB O MG) (AX 27 O (Ef H 0 O O O GR) ?_))))))));exact Zz.1):p:=h ⟨k⟩
theorem iP(k:r)(h:Zq r→p:=by intro Zz;refine ab4 O (IG H 2 O O O PW GY) (Jp (v:= .int _ _) O) (Jp (v:= .bool _) O) ?_;exact Zz.1):p:=h ⟨k⟩
theorem xg(k:r)(h:Zq r→p:=by intro Zz;refine AQ O (BN O (Au (BH (Fe (CX (iP ?_))))));exact Zz.1):p:=h ⟨k⟩
theorem xW(k:r)(h:Zq r→p:=by intro Zz;refine Au (DX O (Aw (Az O (AL (Fv O O Y) (BN O (ql ?_))))));refine Dn H 0 O O O PW GY (Eh H 2 O O O O O O O GY ?_);exact Zz.1):p:=h ⟨k⟩
theorem pR(k:r)(h:Zq r→p:=by intro Zz;refine kU ?_;refine AL (Fb O O Y) (BL O (Cc 24 O O (Cc 24 O O (Cc 24 O O (Iq 27 O (Iq 27 O (Iq 27 O (Iq 27 O (Iq 27 O (Cc 24 O O (Dp O O (BN O ?_))))))))))));exact Zz.1):p:=h ⟨k⟩
theorem mZ(k:r)(h:Zq r→p:=by intro Zz;refine BM 27 func109 O (Aw (bM ?_));refine AX 9 O (Fz O) (AX 9 O (F7 O O Y) (Dp O O (BL O (AX 13 O (Fz O) ?_))));exact Zz.1):p:=h ⟨k⟩
theorem wu(k:r)(h:Zq r→p:=by intro Zz;refine Eh H 0 O O O O O O O IC ?_;exact Zz.1):p:=h ⟨k⟩
theorem kP(k:r)(h:Zq r→p:=by intro Zz;refine AL (ad5 (i:=k) (v:= .int .u64 (ws.getD k 0)) O O O hlt hz underlying217 GV GR) (AQ O (jk ?_));refine AL (QV O O Y) ?_;exact Zz.1):p:=h ⟨k⟩
theorem wM(k:r)(h:Zq r→p:=by intro Zz;refine lW ?_;refine kP ?_;refine mD ?_;refine jl ?_;refine nI ?_;refine Az O (s_call O (hSt _ (H.Bl 2 O)) (JM O) ?_);exact Zz.1):p:=h ⟨k⟩
theorem o8(k:r)(h:Zq r→p:=by intro Zz;refine fJ ?_;refine eX ?_;refine jl ?_;refine nI ?_;refine Az O (AL (OY (i:=8*j) O O Y Y underlying217 GV) (BD H 0 O O hz GR (s_call O (hSt _ (H.Bl 2 O)) (JM O) ?_)));exact Zz.1):p:=h ⟨k⟩
theorem fB(k:r)(h:Zq r→p:=by intro Zz;refine WY mixed Ak H (aP ?_);refine BK (fun _ H=>CB O ND) (BK (fun _ H=>Ef H 0 O O h0 Kt) (eG ?_));refine Np O O (fun _ H=>ZQ g d a _ (H.Bl 1 O)) (RZ O) (aP ?_);refine BK (fun _ H=>CB O NC) (BK (fun _ H=>JV O MG) (BK (fun _ H=>Ef H 0 O O h1 GR) ?_));exact Zz.1):p:=h ⟨k⟩
theorem dS(k:r)(h:Zq r→p:=by intro Zz;refine GN 22 O (fun _ H=>BP (v:= .pointer _) O) (GN 22 O (fun _ H=>ES O) (GN 22 O (fun _ H=>CB O ND) (GN 22 O (fun _ H=>Ef H 0 O O h0 Kt) (GN 22 O (fun _ H=>BP (v:= .int _ _) O) (GN 22 O (fun _ H=>Dk O O (wI Y)) (Np O (EP 22 Ak O) (fun _ H=>ZQ g d ((a:Int)+8) _ (H.Bl 1 O)) (RZ O) (GN 22 O (fun _ H=>BP (v:= .pointer _) O) (GN 22 O (fun _ H=>ES O) (GN 22 O (fun _ H=>CB O NC) (GN 22 O (fun _ H=>JV O MG) (GN 22 O (fun _ H=>Ef H 0 O O h1 GR) ?_)))))))))));exact Zz.1):p:=h ⟨k⟩
theorem vX(k:r)(h:Zq r→p:=by intro Zz;refine qw ?_;refine AP (fB ?_);refine BK (fun _ H=>YH O O Y) (BK (fun _ H=>BP (v:= .bool _) O) (dS ?_));exact Zz.1):p:=h ⟨k⟩
theorem ku(k:r)(h:Zq r→p:=by intro Zz;refine E8 (Ec (fun z f W=>∃j:Nat,j≤2∧z=2-j∧(Nv.JB d m a j).2=0∧f 0=ptr t∧f 5= .int .i64 a∧f 6= .int .i64 ((8*j:Nat):Int)∧Heap w FF [blk t cs 220,grp (Dz g (Nv.JB d m a j).1)] W) 2 ⟨0,Y,rfl,rfl,rfl,rfl,rfl,H⟩ ?_);exact Zz.1):p:=h ⟨k⟩
theorem gB(k:r)(h:Zq r→p:=by intro Zz;refine fJ ?_;refine eX ?_;refine eY ?_;refine BR O ND (BD H 0 O O h0 Kt (Az O (Az O (dI ?_))));refine s_call O (hSt _ (H.Bl 1 O)) (JM O) ?_;exact Zz.1):p:=h ⟨k⟩
theorem vJ(k:r)(h:Zq r→p:=by intro Zz;refine fJ ?_;refine kH ?_;refine eY ?_;refine BR O ND (BD H 0 O O h0 Kt (Az O (s_call O (hP _ (H.Bl 1 O)) (UL O) ?_)));exact Zz.1):p:=h ⟨k⟩
theorem mO(k:r)(h:Zq r→p:=by intro Zz;refine Ip O (FI 22 Ak O O) (Ip O (FI 22 Ak O O) (Ip O (FI 22 Ak O O) ?_));exact Zz.1):p:=h ⟨k⟩
theorem qY(k:r)(h:Zq r→p:=by intro Zz;refine qw ?_;refine eY ?_;refine BR O NC (AL (JV O MG) (BD H 0 O O O GR ?_));exact Zz.1):p:=h ⟨k⟩
theorem iZ(k:r)(h:Zq r→p:=by intro Zz;refine bI ?_;refine Dj 2 O O O (fun _ hS=>CB O NC) trivial (Dj 3 O O O (fun _ hS=>JV O MG) trivial (Dj 6 O O O (fun _ hS=>BP (v:= .pointer _) O) trivial (Dj 7 O O O (fun _ hS=>ES O) trivial (Dj 8 O O O (fun _ hS=>CB O aak) trivial ?_))));exact Zz.1):p:=h ⟨k⟩
theorem gU(k:r)(h:Zq r→p:=by intro Zz;refine Dj 5 O O O (fun _ hS=>Dk O O (wU Y)) trivial ?_;exact Zz.1):p:=h ⟨k⟩
theorem tY(k:r)(h:Zq r→p:=by intro Zz;refine BO O (BD H 0 O O O GR (aj ?_));refine gU ?_;exact Zz.1):p:=h ⟨k⟩
theorem kX(k:r)(h:Zq r→p:=by intro Zz;refine Dj 10 O O O (fun _ hS=>FP (Ky _ _ _ _ _ _ _ _ _) O) trivial (Bd 11 O ?_);exact Zz.1):p:=h ⟨k⟩
theorem cO(k:r)(h:Zq r→p:=by intro Zz;refine Dj 10 O O O (fun _ hS=>FP (Ky _ _ _ _ _ _ _ _ _) O) trivial (Bd 12 O (Eh H 0 O O O O O O O GY ?_));exact Zz.1):p:=h ⟨k⟩
theorem wO(k:r)(h:Zq r→p:=by intro Zz;refine Bd 9 O (AL Aj (aj ?_));refine cO ?_;exact Zz.1):p:=h ⟨k⟩
theorem qm(k:r)(h:Zq r→p:=by intro Zz;refine kL ?_;refine BD H 1 O O O GR (aj ?_);refine gU ?_;refine cO ?_;exact Zz.1):p:=h ⟨k⟩
theorem wV(k:r)(h:Zq r→p:=by intro Zz;refine qw ?_;refine jl ?_;refine s_call O (hWi _ zQ) (anQ O) ?_;exact Zz.1):p:=h ⟨k⟩
theorem vH(k:r)(h:Zq r→p:=by intro Zz;refine bJ ?_;refine Eo 2 O O O (fun _ hS=>CB O ND) trivial (Eo 4 O O O (fun _ hS=>BP (v:= .int _ _) O) trivial ?_);exact Zz.1):p:=h ⟨k⟩
theorem qP(k:r)(h:Zq r→p:=by intro Zz;refine nH ?_;refine s_call O (hWr _ (H.Bl 2 O)) (afD O) ?_;exact Zz.1):p:=h ⟨k⟩
theorem dJ(k:r)(h:Zq r→p:=by intro Zz;refine Eo 7 O O O (fun _ hS=>DJ (v:= .int _ _) O) trivial ?_;exact Zz.1):p:=h ⟨k⟩
theorem mG(k:r)(h:Zq r→p:=by intro Zz;refine aj ?_;refine dJ ?_;refine CJ (AO ?_);exact Zz.1):p:=h ⟨k⟩
theorem uY(k:r)(h:Zq r→p:=by intro Zz;refine mG ?_;refine aT ?_;refine AO (Aw (BF O (BF O (Dn H 0 O O O PW GY (Az O (Dl O (BR O NC (Ov H 1 O O O O O O O GY ?_))))))));exact Zz.1):p:=h ⟨k⟩
theorem uU(k:r)(h:Zq r→p:=by intro Zz;refine ql ?_;refine Az O (oL ?_);refine aQ ?_;exact Zz.1):p:=h ⟨k⟩
theorem og(k:r)(h:Zq r→p:=by intro Zz;refine BK (fun _ H=>BP (v:= .pointer _) O) (BK (fun _ H=>CB O abH) (BK (fun _ H=>Ef H 0 O O O GU) (BK (fun _ H=>CB O aeA) (BK (fun _ H=>Ef H 0 O O O GU) ?_))));exact Zz.1):p:=h ⟨k⟩
theorem ou(k:r)(h:Zq r→p:=by intro Zz;refine BK (fun _ H=>ES O) (BK (fun _ H=>JV O adF) (BK (fun _ H=>asc (i:=m) O O Y Y underlying104 IC) (BK (fun _ H=>aiC (i:=r) O O Y Y underlying103 Kz) ?_)));exact Zz.1):p:=h ⟨k⟩
theorem iC(k:r)(h:Zq r→p:=by intro Zz;refine AL (Ro O Ak underlying26 (wU Y)) ?_;exact Zz.1):p:=h ⟨k⟩
theorem qO(k:r)(h:Zq r→p:=by intro Zz;refine oQ ?_;refine AX 14 O (CB O aan) (AX 14 O (Ef H 0 O O O GU) (AX 14 O (FP (XF _) O) (s_call (EP 14 Ak O) (YD B _ Y) (akf O) ?_)));exact Zz.1):p:=h ⟨k⟩
theorem vS(k:r)(h:Zq r→p:=by intro Zz;refine Cc 14 O O (Cc 14 O O (Cc 14 O O ?_));exact Zz.1):p:=h ⟨k⟩
theorem dZ(k:r)(h:Zq r→p:=by intro Zz;refine ah ?_;(first|(refine wpAnyH_take (i:=9) (v:=?_) rfl Ak Ak Ak (fun _ _ _ h=>h) (Or.inl ⟨by rfl,?_⟩) Ai ?_;rotate_left;(focus (intro w hSw;(try dsimp only at hSw);go_simp;first|done|with_reducible rfl)))|(refine wpAnyH_take (i:=9) rfl Ak Ak Ak (fun _ _ _ h=>h) (Or.inr ⟨by rfl,rfl⟩) Ai ?_)|fail);refine ah ?_;(first|(refine wpAnyH_take (i:=10) (v:=?_) rfl Ak Ak Ak (fun _ _ _ h=>h) (Or.inl ⟨by rfl,?_⟩) Ai ?_;rotate_left;(focus (intro w hSw;(try dsimp only at hSw);go_simp;first|done|with_reducible rfl)))|(refine wpAnyH_take (i:=10) rfl Ak Ak Ak (fun _ _ _ h=>h) (Or.inr ⟨by rfl,rfl⟩) Ai ?_)|fail);refine ah ?_;exact Zz.1):p:=h ⟨k⟩
theorem aU(k:r)(h:Zq r→p:=by intro Zz;refine ah ?_;refine aK ?_;refine ah ?_;(first|(refine wpAnyH_take (i:=5) (v:=?_) rfl Ak Ak Ak (fun _ _ _ h=>h) (Or.inl ⟨by rfl,?_⟩) Ai ?_;rotate_left;(focus (intro w hSw;(try dsimp only at hSw);go_simp;first|done|with_reducible rfl)))|(refine wpAnyH_take (i:=5) rfl Ak Ak Ak (fun _ _ _ h=>h) (Or.inr ⟨by rfl,rfl⟩) Ai ?_)|fail);refine ah ?_;(first|(refine wpAnyH_take (i:=6) rfl Ak Ak Ak (fun _ _ _ h=>h) (Or.inr ⟨by rfl,rfl⟩) Ai ?_)|(refine wpAnyH_take (i:=6) (v:=?_) rfl Ak Ak Ak (fun _ _ _ h=>h) (Or.inl ⟨by rfl,?_⟩) Ai ?_;rotate_left;(focus (intro w hSw;(try dsimp only at hSw);go_simp;first|done|with_reducible rfl)))|fail);refine ah ?_;(first|(refine wpAnyH_take (i:=7) rfl Ak Ak Ak (fun _ _ _ h=>h) (Or.inr ⟨by rfl,rfl⟩) Ai ?_)|(refine wpAnyH_take (i:=7) (v:=?_) rfl Ak Ak Ak (fun _ _ _ h=>h) (Or.inl ⟨by rfl,?_⟩) Ai ?_;rotate_left;(focus (intro w hSw;(try dsimp only at hSw);go_simp;first|done|with_reducible rfl)))|fail);refine ah ?_;(first|(refine wpAnyH_take (i:=8) rfl Ak Ak Ak (fun _ _ _ h=>h) (Or.inr ⟨by rfl,rfl⟩) Ai ?_)|(refine wpAnyH_take (i:=8) (v:=?_) rfl Ak Ak Ak (fun _ _ _ h=>h) (Or.inl ⟨by rfl,?_⟩) Ai ?_;rotate_left;(focus (intro w hSw;(try dsimp only at hSw);go_simp;first|done|with_reducible rfl)))|fail);refine ah ?_;(first|(refine wpAnyH_take (i:=9) rfl Ak Ak Ak (fun _ _ _ h=>h) (Or.inr ⟨by rfl,rfl⟩) Ai ?_)|(refine wpAnyH_take (i:=9) (v:=?_) rfl Ak Ak Ak (fun _ _ _ h=>h) (Or.inl ⟨by rfl,?_⟩) Ai ?_;rotate_left;(focus (intro w hSw;(try dsimp only at hSw);go_simp;first|done|with_reducible rfl)))|fail);refine ah ?_;(first|(refine wpAnyH_take (i:=10) (v:=?_) rfl Ak Ak Ak (fun _ _ _ h=>h) (Or.inl ⟨by rfl,?_⟩) Ai ?_;rotate_left;(focus (intro w hSw;(try dsimp only at hSw);go_simp;first|done|with_reducible rfl)))|(refine wpAnyH_take (i:=10) rfl Ak Ak Ak (fun _ _ _ h=>h) (Or.inr ⟨by rfl,rfl⟩) Ai ?_)|fail);refine ah ?_;exact Zz.1):p:=h ⟨k⟩
theorem sU(k:r)(h:Zq r→p:=by intro Zz;refine mQ ?_;refine aj ?_;refine Eo 5 O O O (fun _ hS=>FH O O (wI Y)) trivial ?_;exact Zz.1):p:=h ⟨k⟩
theorem jm(k:r)(h:Zq r→p:=by intro Zz;refine aj ?_;refine CJ (aC ?_);exact Zz.1):p:=h ⟨k⟩
theorem iG(k:r)(h:Zq r→p:=by intro Zz;refine fJ ?_;refine CY O (Di O underlying128 (eX ?_));refine AP (AP (WY mixed Ak H (bC ?_)));refine BK (fun _ H=>PS (i:=b) O O Y Y underlying128 EC) (BK (fun _ H=>afv H 1 O O hh Iy EC) (bC ?_));refine BK (fun _ H=>PS (i:=b) O O Y Y underlying128 EC) (BK (fun _ H=>afv H 2 O O hkk Iy EC) ?_);exact Zz.1):p:=h ⟨k⟩
theorem qg(k:r)(h:Zq r→p:=by intro Zz;refine Dj 0 O O O (fun _ hS=>BP (v:= .pointer _) O) trivial ?_;exact Zz.1):p:=h ⟨k⟩
theorem rW(k:r)(h:Zq r→p:=by intro Zz;refine aj ?_;refine Dj 11 O O O (fun _ hS=>DJ (v:= .int _ _) O) trivial (CJ (Dt ?_));exact Zz.1):p:=h ⟨k⟩
theorem uO(k:r)(h:Zq r→p:=by intro Zz;refine Dj 0 O O O (fun _ hS=>BP (v:= .pointer _) O) (H.Ew [0] O O) ?_;exact Zz.1):p:=h ⟨k⟩
theorem xq(k:r)(h:Zq r→p:=by intro Zz;refine AL (FC (i:=i) O O Y Y underlying22 Kz) ?_;exact Zz.1):p:=h ⟨k⟩
theorem sO(k:r)(h:Zq r→p:=by intro Zz;refine kK ?_;refine AX 6 O (Fz O) (AX 6 O (CB O Gg) (AX 6 O (Ef (HR.same H.only) 0 O O O Lm) (AX 6 O (Ey O underlying23) ?_)));exact Zz.1):p:=h ⟨k⟩
theorem o9(k:r)(h:Zq r→p:=by intro Zz;refine BM 20 func245 O (Aw (kK ?_));refine AX 6 O (Ef H 0 O O O RJ) (AX 6 O (Fz O) (AX 6 O (FC (i:=i) O O Y Y underlying155 sz4) (AX 6 O (Nq H 1 O O hg ag4) ?_)));exact Zz.1):p:=h ⟨k⟩
theorem lD(k:r)(h:Zq r→p:=by intro Zz;refine bJ ?_;refine Eo 2 O O O (fun _ hS=>CB O Pz) trivial (Bd 3 O (Dn H 0 O O O UC SN (kL ?_)));exact Zz.1):p:=h ⟨k⟩
theorem lN(k:r)(h:Zq r→p:=by intro Zz;refine Eo 5 O O O (fun _ hS=>CG (v:= .int _ _) O O) trivial (Eo 6 O O O (fun _ hS=>CG (v:= .int _ _) O O) trivial (dJ ?_));refine Eo 8 O O O (fun _ hS=>DJ (v:= .int _ _) O) trivial ?_;exact Zz.1):p:=h ⟨k⟩
theorem lZ(k:r)(h:Zq r→p:=by intro Zz;refine bI ?_;refine Dj 2 O O O (fun _ hS=>CB O Pz) trivial (Bd 3 O (Dn H 0 O O O UC SN (kL ?_)));exact Zz.1):p:=h ⟨k⟩
theorem dL(k:r)(h:Zq r→p:=by intro Zz;refine Dj 5 O O O (fun _ hS=>BP (v:= .tuple _) O) trivial (Dj 6 O O O (fun _ hS=>CG (v:= .int _ _) O O) trivial (Dj 7 O O O (fun _ hS=>CG (v:= .int _ _) O O) trivial (Dj 8 O O O (fun _ hS=>DJ (v:= .int _ _) O) trivial (Dj 9 O O O (fun _ hS=>DJ (v:= .int _ _) O) trivial ?_))));exact Zz.1):p:=h ⟨k⟩
theorem vT(k:r)(h:Zq r→p:=by intro Zz;refine E8 (eY ?_);refine BR O UA (BD H 1 O O q38 ag4 (BN O (Au (DX O (Aw ?_)))));exact Zz.1):p:=h ⟨k⟩
theorem iM(k:r)(h:Zq r→p:=by intro Zz;refine bJ ?_;refine Eo 2 O O O (fun _ hS=>CB O Pz) trivial (Eo 4 O O O (fun _ hS=>BP (v:= .int _ _) O) trivial (Bd 3 O (Dn H 0 O O O UC SN ?_)));exact Zz.1):p:=h ⟨k⟩
theorem uJ(k:r)(h:Zq r→p:=by intro Zz;refine iM ?_;refine iE ?_;refine s_call O (hG (H.one 1 O)) (apn O) ?_;exact Zz.1):p:=h ⟨k⟩
theorem oH(k:r)(h:Zq r→p:=by intro Zz;refine Eo 6 O O O (fun _ hS=>DJ (v:= .int _ _) O) trivial (CJ (AO (BH (aQ ?_))));exact Zz.1):p:=h ⟨k⟩
theorem iH(k:r)(h:Zq r→p:=by intro Zz;refine Dj 9 O O O (fun _ hS=>BP (v:= .tuple _) O) trivial (Dj 10 O O O (fun _ hS=>CG (v:= .int _ _) O O) trivial (Dj 11 O O O (fun _ hS=>CG (v:= .int _ _) O O) trivial (Dj 12 O O O (fun _ hS=>DJ (v:= .int _ _) O) trivial (Dj 13 O O O (fun _ hS=>DJ (v:= .int _ _) O) trivial (CJ (Dt ?_))))));exact Zz.1):p:=h ⟨k⟩
theorem xk(k:r)(h:Zq r→p:=by intro Zz;refine Aw (BF O (BF O (Dl O (BR O Wq (BD H 0 O O O Kt (Az O (Az O (Az O (s_call O (hSt (H.IQ 1 O)) (ap3 O) ?_)))))))));exact Zz.1):p:=h ⟨k⟩
theorem mF(k:r)(h:Zq r→p:=by intro Zz;refine AL (Hq H O hcell J GU) (AQ O (Au (Aw (AL (BP (v:= .func _ _ _) O) (Az O (MH O O O func99 Ak Ak (hIr _ (H.one 0 O)) ?_))))));exact Zz.1):p:=h ⟨k⟩
theorem jf(k:r)(h:Zq r→p:=by intro Zz;refine BR O Gg (BD H 0 O O O Lm (Di O underlying23 ?_));exact Zz.1):p:=h ⟨k⟩
theorem gQ(k:r)(h:Zq r→p:=by intro Zz;refine AL (JY (i:=i) O O Y Y underlying23 JR) ?_;exact Zz.1):p:=h ⟨k⟩
theorem iO(k:r)(h:Zq r→p:=by intro Zz;refine ak ?_;refine gQ ?_;refine AL (SB (enc:=fun v:Value=>v) (zs:=[.slice x.A x.n x.c,.slice x.B x.m x.d]) (hrx.later H.only J) O O Xe JR) ?_;exact Zz.1):p:=h ⟨k⟩
theorem qH(k:r)(h:Zq r→p:=by intro Zz;refine Eh H 0 O O O O O O O JR ?_;exact Zz.1):p:=h ⟨k⟩
theorem rP(k:r)(h:Zq r→p:=by intro Zz;refine BR O Iz (iQ ?_);refine AL (ER O O Y) (BL O (AX 34 O (CB O Nc) (AX 34 O (Ef H 0 O O O JE) (AX 34 O (Ey O underlying55) ?_))));exact Zz.1):p:=h ⟨k⟩
theorem ji(k:r)(h:Zq r→p:=by intro Zz;refine AL (SB (enc:=fun v:Value=>v) (zs:=[.slice x.A x.n x.c,.slice x.B x.m x.d]) (hrx.later H.only hbI) O O Xe JR) ?_;exact Zz.1):p:=h ⟨k⟩
theorem lG(k:r)(h:Zq r→p:=by intro Zz;refine BO O (BD H 0 O O O Fg ?_);exact Zz.1):p:=h ⟨k⟩
theorem mV(k:r)(h:Zq r→p:=by intro Zz;refine Dj 4 O O O (fun _ hS=>Ey O underlying22) trivial ?_;exact Zz.1):p:=h ⟨k⟩
theorem lV(k:r)(h:Zq r→p:=by intro Zz;refine BD H 0 O O O JE (aj ?_);refine Dj 7 O O O (fun _ hS=>Ey O underlying55) trivial ?_;exact Zz.1):p:=h ⟨k⟩
theorem kC(k:r)(h:Zq r→p:=by intro Zz;refine Bd 8 O (s_call O (hAl H.drop.drop.ents) (agY O) ?_);exact Zz.1):p:=h ⟨k⟩
theorem vP(k:r)(h:Zq r→p:=by intro Zz;refine o7 ?_;refine s_call O (hFl H.drop.drop.drop.ents (hxo.fresh H.drop.drop.drop) (VZ H.drop.drop)) (auE O) ?_;exact Zz.1):p:=h ⟨k⟩
theorem xB(k:r)(h:Zq r→p:=by intro Zz;refine AL (Hq H O hcell J GU) (AQ O (Au ?_));exact Zz.1):p:=h ⟨k⟩
theorem qG(k:r)(h:Zq r→p:=by intro Zz;refine Eh H 0 O O O O O O O Jg ?_;exact Zz.1):p:=h ⟨k⟩
theorem lF(k:r)(h:Zq r→p:=by intro Zz;refine Eo 2 O O O (fun _ hS=>BP (v:= .func _ _ _) O) trivial (fU ?_);exact Zz.1):p:=h ⟨k⟩
theorem wY(k:r)(h:Zq r→p:=by intro Zz;refine MH O O O func192 Ak Ak (hT (H.order [2,3,0,1,4,5,6] O O:Heap w [] ([_,_]++ [_,_,_,_,_]) _).part) ?_;exact Zz.1):p:=h ⟨k⟩
theorem pG(k:r)(h:Zq r→p:=by intro Zz;refine LC (enc:=(Value.int .i64)) (zs:=[Gr.J3 out r]) H O O O Y Ak underlying22 GI ?_;exact Zz.1):p:=h ⟨k⟩
theorem aH(k:r)(h:Zq r→p:=by intro Zz;refine aj ?_;refine Bd 6 O (KX (enc:=(Value.int .i64)) (size:=1) H 1 O O O O (fun _=>rfl) Y Y underlying22 GI O ?_);exact Zz.1):p:=h ⟨k⟩
theorem bY(k:r)(h:Zq r→p:=by intro Zz;refine Bd 8 O (Ic (u:= .slice _ _ _) H 0 O O O O O O Lh ?_);exact Zz.1):p:=h ⟨k⟩
theorem fZ(k:r)(h:Zq r→p:=by intro Zz;refine aj ?_;refine Eo 7 O O O (fun _ hS=>CB O IU) trivial (bY ?_);exact Zz.1):p:=h ⟨k⟩
theorem nS(k:r)(h:Zq r→p:=by intro Zz;refine aj ?_;refine Bd 1 O (BD H 1 O O O Fg (aH ?_));exact Zz.1):p:=h ⟨k⟩
theorem sK(k:r)(h:Zq r→p:=by intro Zz;refine MH O O O func192 Ak Ak (hT (H.order [7,8,0,1,2,3,4,5,6,9,10,11] O O:Heap w [] ([_,_]++ [_,_,_,_,_,_,_,_,_,_]) _).part) ?_;exact Zz.1):p:=h ⟨k⟩
theorem oW(k:r)(h:Zq r→p:=by intro Zz;refine LC (enc:=(Value.int .i64)) (zs:=[Gr.J3 out q]) H O O O Y Ak underlying22 GI ?_;exact Zz.1):p:=h ⟨k⟩
theorem fK(k:r)(h:Zq r→p:=by intro Zz;refine aj ?_;refine Eo 7 O O O (fun _ hS=>CB O Iz) trivial (bY ?_);exact Zz.1):p:=h ⟨k⟩
theorem wH(k:r)(h:Zq r→p:=by intro Zz;refine BM 30 func195 O (Aw (qw ?_));refine Aw (BD H 0 O O O Om (Az O ?_));exact Zz.1):p:=h ⟨k⟩
theorem cu(k:r)(h:Zq r→p:=by intro Zz;refine LC (enc:=(Value.int .i64)) (zs:=[v]) H O O O Y Ak underlying22 GI ?_;exact Zz.1):p:=h ⟨k⟩
theorem vZ(k:r)(h:Zq r→p:=by intro Zz;refine iE ?_;refine cu ?_;exact Zz.1):p:=h ⟨k⟩
theorem vV(k:r)(h:Zq r→p:=by intro Zz;refine BO O (BD (Heap.start (H.Bl 5 O)) 0 O O O Om (aj ?_));exact Zz.1):p:=h ⟨k⟩
theorem iW(k:r)(h:Zq r→p:=by intro Zz;refine Dj 3 O O O (fun _ hS=>FC (i:=i') O O Y Y underlying22 Kz) trivial ?_;exact Zz.1):p:=h ⟨k⟩
theorem uZ(k:r)(h:Zq r→p:=by intro Zz;refine BO O (AL (L9 (Heap.start (H.Bl 5 O)) 4 O O hy GU) (aj ?_));exact Zz.1):p:=h ⟨k⟩
theorem dK(k:r)(h:Zq r→p:=by intro Zz;refine s_call O (hP1 ((HR.same H.only).Bl 1 O)) (Qn O) ?_;exact Zz.1):p:=h ⟨k⟩
theorem aA(k:r)(h:Zq r→p:=by intro Zz;refine Dj 6 O O O (fun _ hS=>BP (v:= .tuple _) O) trivial (Dj 7 O O O (fun _ hS=>CG (v:= .agg _) O O) trivial (Dj 8 O O O (fun _ hS=>CG (v:= .bool _) O O) trivial ?_));exact Zz.1):p:=h ⟨k⟩
theorem dh(k:r)(h:Zq r→p:=by intro Zz;refine Dj 11 O O O (fun _ hS=>DJ (v:= .bool _) O) trivial ?_;exact Zz.1):p:=h ⟨k⟩
theorem jR(k:r)(h:Zq r→p:=by intro Zz;refine aj ?_;refine dh ?_;refine CJ (Dt ?_);exact Zz.1):p:=h ⟨k⟩
theorem nO(k:r)(h:Zq r→p:=by intro Zz;refine iE ?_;refine dK ?_;exact Zz.1):p:=h ⟨k⟩
theorem dW(k:r)(h:Zq r→p:=by intro Zz;refine aA ?_;refine Bd 10 O (Ov H 0 O O O O O O O DF ?_);exact Zz.1):p:=h ⟨k⟩
theorem qK(k:r)(h:Zq r→p:=by intro Zz;refine aj ?_;refine dW ?_;exact Zz.1):p:=h ⟨k⟩
theorem iT(k:r)(h:Zq r→p:=by intro Zz;refine AL (L9 (Heap.start (H.Bl 6 O)) 4 O O hy GU) ?_;exact Zz.1):p:=h ⟨k⟩
theorem uT(k:r)(h:Zq r→p:=by intro Zz;refine BD (Heap.start (H.Bl 6 O)) 3 O O O Fg (aj ?_);refine iW ?_;exact Zz.1):p:=h ⟨k⟩
theorem oz(k:r)(h:Zq r→p:=by intro Zz;refine BD (Heap.start (H.Bl 6 O)) 0 O O O Om ?_;exact Zz.1):p:=h ⟨k⟩
theorem gY(k:r)(h:Zq r→p:=by intro Zz;refine Dj 4 O O O (fun _ hS=>FC (i:=i') O O Y Y underlying22 Kz) trivial ?_;exact Zz.1):p:=h ⟨k⟩
theorem uM(k:r)(h:Zq r→p:=by intro Zz;refine BD (Heap.start (H.Bl 7 O)) 3 O O O Fg (aj ?_);refine gY ?_;exact Zz.1):p:=h ⟨k⟩
theorem lC(k:r)(h:Zq r→p:=by intro Zz;refine AL (L9 (Heap.start (H.Bl 7 O)) 4 O O hy' GU) ?_;exact Zz.1):p:=h ⟨k⟩
theorem au(k:r)(h:Zq r→p:=by intro Zz;refine Dj 8 O O O (fun _ hS=>BP (v:= .tuple _) O) trivial (Dj 9 O O O (fun _ hS=>CG (v:= .int _ _) O O) trivial (Dj 10 O O O (fun _ hS=>CG (v:= .int _ _) O O) trivial (Dj 11 O O O (fun _ hS=>DJ (v:= .int _ _) O) trivial (Dj 12 O O O (fun _ hS=>DJ (v:= .int _ _) O) trivial (CJ (Dt ?_))))));exact Zz.1):p:=h ⟨k⟩
theorem rC(k:r)(h:Zq r→p:=by intro Zz;refine aj ?_;refine au ?_;exact Zz.1):p:=h ⟨k⟩
theorem uH(k:r)(h:Zq r→p:=by intro Zz;refine BD (Heap.start (H.Bl 8 O)) 3 O O O Fg (aj ?_);refine gY ?_;exact Zz.1):p:=h ⟨k⟩
theorem lu(k:r)(h:Zq r→p:=by intro Zz;refine AL (L9 (Heap.start (H.Bl 8 O)) 4 O O hy' GU) ?_;exact Zz.1):p:=h ⟨k⟩
theorem wX(k:r)(h:Zq r→p:=by intro Zz;refine DR (BR O Nc (BD H 0 O O O JE (Az O (O7 (enc:=(Value.int .u64)) H 1 O O O O O O O Y underlying55 Ig O ?_))));exact Zz.1):p:=h ⟨k⟩
theorem lM(k:r)(h:Zq r→p:=by intro Zz;refine Ec (fun z f W=>∃i:Nat,i≤n∧z=n-i∧xs.take i=ys.take i∧f 0= .slice A n c∧f 1= .slice B n d∧f 12= .int .i64 n∧f 13= .int .i64 i∧Heap w [] [] W) n ⟨0,Y,rfl,rfl,rfl,rfl,rfl,rfl,H⟩ ?_;exact Zz.1):p:=h ⟨k⟩
theorem kQ(k:r)(h:Zq r→p:=by intro Zz;refine WY mixed Ak H (bC ?_);refine BK (fun _ H=>Gp (i:=i) O O Y Y underlying22 Kz) (BK (fun _ H=>Hq H O hcx J GU) (bC ?_));refine BK (fun _ H=>Gp (i:=i) O O Y Y underlying22 Kz) (BK (fun _ H=>Hq H O hcy J GU) ?_);exact Zz.1):p:=h ⟨k⟩
theorem jU(k:r)(h:Zq r→p:=by intro Zz;refine AP (WY mixed Ak H (bC ?_));refine BK (fun _ H=>Gp (i:=i) O O Y Y underlying55 GV) (BK (fun _ H=>Hq H O hcx J GR) (bC ?_));refine BK (fun _ H=>Gp (i:=i) O O Y Y underlying55 GV) (BK (fun _ H=>Hq H O hcy J GR) ?_);exact Zz.1):p:=h ⟨k⟩
theorem vI(k:r)(h:Zq r→p:=by intro Zz;refine BN O (Au (AP (Aw (BR O IU (BD H 1 O O O Fg (BR O IU (BD H 0 O O O Fg ?_)))))));exact Zz.1):p:=h ⟨k⟩
theorem nJ(k:r)(h:Zq r→p:=by intro Zz;refine AL (EM O) (BL O (AX 13 O (CB O Gg) (AX 13 O (Ef H 1 O O O Lm) (AX 13 O (Ey O underlying23) (AX 13 O (CB O Gg) (AX 13 O (Ef H 0 O O O Lm) (AX 13 O (Ey O underlying23) ?_)))))));exact Zz.1):p:=h ⟨k⟩
theorem jw(k:r)(h:Zq r→p:=by intro Zz;refine gQ ?_;refine AL (SB (enc:=fun v:Value=>v) (zs:=[.slice x.A x.n x.c,.slice x.B x.m x.d]) (hxc.later H.only J) O O Xe JR) ?_;exact Zz.1):p:=h ⟨k⟩
theorem bW(k:r)(h:Zq r→p:=by intro Zz;refine BK (fun _ H=>CB O Iz) (BK (fun _ H=>Ef H 0 O O O Fg) (BK (fun _ H=>CB O Gg) (BK (fun _ H=>Ef H 1 O O O Lm) (BK (fun _ H=>BP (v:= .int _ _) O) (BK (fun _ H=>JY (i:=i) O O Y Y underlying23 JR) (BK (fun _ H=>JV O Iz) (BK (fun _ H=>Hq H O aqY J Fg) (Np O O (fun _ H=>hEp _ H.only) (acG O) (BK (fun _ H=>EM O) (BK (fun _ H=>BP (v:= .bool _) O) (GN 40 O (fun _ H=>CB O Nc) (GN 40 O (fun _ H=>Ef H 0 O O O JE) (GN 40 O (fun _ H=>CB O Gg) ?_)))))))))))));refine GN 40 O (fun _ H=>Ef H 1 O O O Lm) (GN 40 O (fun _ H=>BP (v:= .int _ _) O) (GN 40 O (fun _ H=>JY (i:=i) O O Y Y underlying23 JR) (GN 40 O (fun _ H=>JV O Nc) (GN 40 O (fun _ H=>Hq H O atE J JE) (Np O (EP 40 Ak O) (fun _ H=>hEd _ H.only) (anO O) ?_)))));exact Zz.1):p:=h ⟨k⟩
theorem qj(k:r)(h:Zq r→p:=by intro Zz;refine Ip O (FI 40 Ak O O) (Ip O (FI 40 Ak O O) ?_);exact Zz.1):p:=h ⟨k⟩
theorem sJ(k:r)(h:Zq r→p:=by intro Zz;refine AX 25 O (Je (HQ.same H.only) 0 O O O MO Jg) (AX 25 O (Je H 0 O O O MO Jg) (s_call (EP 25 Ak O) (hS _ H.only) (aqc O) ?_));exact Zz.1):p:=h ⟨k⟩
theorem qA(k:r)(h:Zq r→p:=by intro Zz;refine oG ?_;refine AL (Fb O O Y) (BL O (Cc 21 O O (Cc 21 O O (Dp O O (BL O (Cc 25 O O (Cc 25 O O (Cc 25 O O (Dp O O (gZ ?_))))))))));exact Zz.1):p:=h ⟨k⟩
theorem rH(k:r)(h:Zq r→p:=by intro Zz;refine AL (FP (TU _ _ _) O) (s_call O (hNw _) (ca7 O) ?_);exact Zz.1):p:=h ⟨k⟩
theorem uy(k:r)(h:Zq r→p:=by intro Zz;refine BD (Heap.start (H.Bl 4 O)) 0 O O O Fg (aj ?_);refine Dj 8 O O O (fun _ hS=>FC (i:=i') O O Y Y underlying22 Kz) trivial ?_;exact Zz.1):p:=h ⟨k⟩
theorem dO(k:r)(h:Zq r→p:=by intro Zz;refine s_call O (hN1 ((QD (GZ hE).ents H).Ew [8,4] O O).ents ((H.Yq 7 O).off1 (((H.order [7,0,1,2,3,4,5,6] O O:Heap w [] (_::_) _).apart 4 O ph (by simp[hrow,blk]))))) (apl O) ?_;exact Zz.1):p:=h ⟨k⟩
theorem gJ(k:r)(h:Zq r→p:=by intro Zz;refine WS (enc:=C1.v) (size:=2) (zs:=[C1.s PA np cP,C1.s DB nq dD]) H O O O Y Ak underlying23 LV ?_;exact Zz.1):p:=h ⟨k⟩
theorem iI(k:r)(h:Zq r→p:=by intro Zz;refine Bd 12 O (KX (enc:=C1.v) (size:=2) H 2 O O O O C1.one Y Y underlying23 LV O ?_);exact Zz.1):p:=h ⟨k⟩
theorem fG(k:r)(h:Zq r→p:=by intro Zz;refine Dj 13 O O O (fun _ hS=>CB O Gg) trivial (Bd 14 O (Ic (u:= .slice _ _ _) H 0 O O O O O O ag6 ?_));exact Zz.1):p:=h ⟨k⟩
theorem lI(k:r)(h:Zq r→p:=by intro Zz;refine AL (JU (Heap.start (H.Bl 4 O)) 0 (vs:=[.bool true,.int .i64 0,.int .i64 0]) O O O O ahJ aaG) ?_;exact Zz.1):p:=h ⟨k⟩
theorem ng(k:r)(h:Zq r→p:=by intro Zz;refine mG ?_;refine BH (ab4 O (IG H 6 O O O MO Jg) (IG H 5 O O O ahJ aaG) (Jp (v:= .int _ _) O) ?_);exact Zz.1):p:=h ⟨k⟩
theorem kW(k:r)(h:Zq r→p:=by intro Zz;refine BR O IU (iQ ?_);refine AL (ER O O Y) (BL O (AX 8 O (CB O Gg) (AX 8 O (Ef H 0 O O O Lm) (AX 8 O (Ey O underlying23) (AX 8 O (ER O O Y) (Dp O O (BL O (AX 14 O (Je H 0 O O O MO Jg) (s_call (EP 14 Ak O) (hRi H.only) (ajF O) ?_)))))))));exact Zz.1):p:=h ⟨k⟩
theorem qy(k:r)(h:Zq r→p:=by intro Zz;refine fJ ?_;refine jf ?_;refine eX ?_;refine Aw (BR O Gg (BD H 0 O O O Lm (Az O ?_)));exact Zz.1):p:=h ⟨k⟩
theorem jS(k:r)(h:Zq r→p:=by intro Zz;refine gQ ?_;refine AL (JV O Nc) (AL (Hq H O hc1 J JE) (Di O underlying55 (AL (ER O O Y) (BL O (AX 34 O (CB O Gg) (AX 34 O (Ef H 0 O O O Lm) (AX 34 O (Fz O) (AX 34 O (JY (i:=i) O O Y Y underlying23 JR) (AX 34 O (JV O Iz) (AX 34 O (Hq H O hc0 J Fg) (AX 34 O (Ey O underlying22) ?_)))))))))));exact Zz.1):p:=h ⟨k⟩
theorem wo(k:r)(h:Zq r→p:=by intro Zz;refine fJ ?_;refine dV ?_;exact Zz.1):p:=h ⟨k⟩
theorem nU(k:r)(h:Zq r→p:=by intro Zz;refine fJ ?_;refine dV ?_;refine AL (Df O O Y) (BL O (AX 14 O (UN O) (AX 14 O (Fz O) (AX 14 O (Gp (i:=(i+k)) O O Y Y underlying55 GV) (AX 14 O (Hq H (i:=o+(i+k)) O hc J GR) ?_)))));exact Zz.1):p:=h ⟨k⟩
theorem sD(k:r)(h:Zq r→p:=by intro Zz;refine LC (enc:=(Value.int .u64)) (zs:=[z]) H O O O Y Ak underlying55 Ig ?_;exact Zz.1):p:=h ⟨k⟩
theorem lg(k:r)(h:Zq r→p:=by intro Zz;refine Bd 7 O (adA (enc:=(Value.int .u64)) H 2 O O O O (H.KJ 0 O) (O) (fun _=>rfl) Y underlying55 Ig O ?_);exact Zz.1):p:=h ⟨k⟩
theorem mg(k:r)(h:Zq r→p:=by intro Zz;refine Dj 10 O O O (fun _ hS=>CB O Ws) trivial (Bd 11 O (Ic (u:= .slice _ _ _) H 1 O O O O O O amb ?_));exact Zz.1):p:=h ⟨k⟩
theorem rM(k:r)(h:Zq r→p:=by intro Zz;refine aj ?_;refine Dj 12 O O O (fun _ hS=>DJ (v:= .int _ _) O) trivial (CJ (Dt ?_));exact Zz.1):p:=h ⟨k⟩
theorem iw(k:r)(h:Zq r→p:=by intro Zz;refine BL O (Cc 50 O O (Cc 50 O O (Cc 50 O O (Cc 50 O O (Iq 54 O (Iq 54 O (Cc 50 O O (ED O O (BL O (Cc 59 O O (Cc 59 O O (Cc 59 O O (Iq 62 O ?_)))))))))))));refine Iq 62 O (Iq 62 O (Cc 59 O O (ED O O (AA (Dt ?_)))));exact Zz.1):p:=h ⟨k⟩
theorem qW(k:r)(h:Zq r→p:=by intro Zz;rw[hbd];refine DR (Az O (Az O (AL (ER O O Y) (BL O (AX 37 O (Fz O) (AX 37 O (Fz O) (AX 37 O (Fz O) (AX 37 O (FH O O (wU Y)) ?_))))))));exact Zz.1):p:=h ⟨k⟩
theorem aI(k:r)(h:Zq r→p:=by intro Zz;refine AL (ER O O Y) (BL O (AX 37 O (Fz O) (AX 37 O (Fz O) (AX 37 O (Fz O) (AX 37 O (FH O O (wU Y)) (AX 37 O (ER O O Y) (Dp O O (BL O (AX 44 O (Fz O) (AX 44 O (Fz O) (AX 44 O (Dk O O (wU Y)) (AX 44 O (Fb O O Y) (Dp O O ?_)))))))))))));refine BL O (AX 50 O (UN O) (AX 50 O (Ey O underlying55) ?_));exact Zz.1):p:=h ⟨k⟩
theorem iF(k:r)(h:Zq r→p:=by intro Zz;rw[hbd];refine DR (Az O (Az O (aI ?_)));refine AX 50 O (Jl O O Y) (AX 50 O (WU O) (AX 54 O (Fz O) (AX 54 O (Fb O O Y) (AX 50 O (HY (v:= .bool _) O O) (Dp O O (BL O (AX 59 O (Fz O) ?_)))))));exact Zz.1):p:=h ⟨k⟩
theorem kS(k:r)(h:Zq r→p:=by intro Zz;refine AX 59 O (Fv O O Y) (AX 59 O (WU O) (AX 62 O (Fz O) (AX 62 O (Fz O) ?_)));exact Zz.1):p:=h ⟨k⟩
theorem qN(k:r)(h:Zq r→p:=by intro Zz;refine AX 59 O (HY (v:= .bool _) O O) (Dp O O (AA (Dt ?_)));exact Zz.1):p:=h ⟨k⟩
theorem rE(k:r)(h:Zq r→p:=by intro Zz;refine AX 59 O (Fb O O Y) (AX 59 O (WU O) (Cc 62 O O (Cc 62 O O (Cc 62 O O (AX 59 O (Ku (v:= .bool _) O O) (Dp O O (AA (Dt ?_))))))));exact Zz.1):p:=h ⟨k⟩
theorem jO(k:r)(h:Zq r→p:=by intro Zz;refine aI ?_;refine AX 50 O (ER O O Y) (AX 50 O (WU O) (Cc 54 O O (Cc 54 O O (AX 50 O (Ku (v:= .bool _) O O) (Dp O O ?_)))));exact Zz.1):p:=h ⟨k⟩
theorem tK(k:r)(h:Zq r→p:=by intro Zz;rw[hbd];refine DR (Az O (Az O (jO ?_)));refine BL O (AX 59 O (Fz O) ?_);exact Zz.1):p:=h ⟨k⟩
theorem rV(k:r)(h:Zq r→p:=by intro Zz;refine BM 69 func9 O (Aw (EX O (qw ?_)));refine Aw (CY O (Di O underlying39 (AL (QV O O Y) ?_)));exact Zz.1):p:=h ⟨k⟩
theorem ay(k:r)(h:Zq r→p:=by intro Zz;refine WY mixed Ak H (BK (fun _ H=>BP (v:= .slice _ _ _) O) (BK (fun _ H=>BP (v:= .slice _ _ _) O) (BK (fun _ H=>Ey O underlying55) (BK (fun _ H=>FH O O (wI Y)) (BK (fun _ H=>aaQ (j:=W0.length-1) O O Y Y underlying55 GV) (BK (fun _ H=>BP (v:= .slice _ _ _) O) (BK (fun _ H=>BP (v:= .slice _ _ _) O) (BK (fun _ H=>Ey O underlying55) (BK (fun _ H=>FH O O (wI Y)) (BK (fun _ H=>FC (i:=W0.length-1) O O Y Y underlying55 GV) (BK (fun _ H=>Nq H 0 O O hxl GR) (BK (fun _ H=>DJ (v:= .slice _ _ _) O) (BK (fun _ H=>DJ (v:= .int _ _) O) ?_)))))))))))));refine H8 ?_;exact Zz.1):p:=h ⟨k⟩
theorem gG(k:r)(h:Zq r→p:=by intro Zz;refine CY O (AL (FC (i:=0) O O Y Y underlying55 GV) (AL (Nq H 0 O O hx0 GR) (AL (Dc O O Y) (BN O ?_))));exact Zz.1):p:=h ⟨k⟩
theorem qB(k:r)(h:Zq r→p:=by intro Zz;refine AO (AP (E8 (Aw (gG ?_))));refine Au (DX O (Aw (Az O (CY O ?_))));exact Zz.1):p:=h ⟨k⟩
theorem uf(k:r)(h:Zq r→p:=by intro Zz;refine BN O (ql ?_);refine EX O (AQ O (Au (BH (Fe (CX (dM ?_))))));exact Zz.1):p:=h ⟨k⟩
theorem fO(k:r)(h:Zq r→p:=by intro Zz;refine CY O (AL (FC (i:=1) O O Y Y underlying55 GV) (AL (Nq H 0 O O hx1 GR) (AL (ER O O Y) (BL O (AX 47 O (UN O) (AX 47 O (FC (i:=1) O O Y Y underlying55 GV) (AX 47 O (Nq H 0 O O hx1 GR) (AX 47 O (QV O O Y) ?_))))))));exact Zz.1):p:=h ⟨k⟩
theorem eu(k:r)(h:Zq r→p:=by intro Zz;refine Eo 0 O O O (fun _ hS=>BP (v:= .slice _ _ _) O) trivial (Eo 1 O O O (fun _ hS=>adX (i:=2) (o2:=o2) (l2:=W0.length-1-2) (c2:=cb-2) O O O Y ho2 Y O underlying55 GV) trivial (Eo 2 O O O (fun _ hS=>BP (v:= .slice _ _ _) O) trivial (Eo 3 O O O (fun _ hS=>FC (i:=1) O O Y Y underlying55 GV) trivial (Bd 4 O (AL (Nq H 0 O O hx1 GR) (aj ?_))))));refine Eo 5 O O O (fun _ hS=>Ro O Ak underlying3 (wI Y)) trivial (Bd 6 O (s_call O (hRd _ (hr2 _ ((by simpa using H.reads 0 O 0 (W0.length-1):Reads (Value.int .u64) _ b 0 (W0.take (W0.length-1)))))) (ava O) ?_));exact Zz.1):p:=h ⟨k⟩
theorem iy(k:r)(h:Zq r→p:=by intro Zz;refine Eo 7 O O O (fun _ hS=>BP (v:= .tuple _) O) trivial (Eo 8 O O O (fun _ hS=>CG (v:= .slice _ _ _) O O) trivial (Eo 9 O O O (fun _ hS=>CG (v:= .int _ _) O O) trivial (Eo 10 O O O (fun _ hS=>DJ (v:= .slice _ _ _) O) trivial (Eo 11 O O O (fun _ hS=>DJ (v:= .int _ _) O) trivial (CJ (AO ?_))))));exact Zz.1):p:=h ⟨k⟩
end
section
section
open Go.RowKit
theorem FB{k:IntKind}{a b:Int}(h:a=b):Ending.returned (.int k a)= .returned (.int k b):=by rw[h]
theorem FN{a b:Bool}(h:a=b):Ending.returned (.bool a)= .returned (.bool b):=by rw[h]
theorem UE{k:IntKind}{a b:Int}{c d:Bool}(h:a=b)(h2:c=d):Ending.returned (.tuple #[.int k a,.bool c])= .returned (.tuple #[.int k b,.bool d]):=by rw[h,h2]
theorem aaX{k l:IntKind}{a b c d:Int}(h:a=b)(h2:c=d):Ending.returned (.tuple #[.int k a,.int l c])= .returned (.tuple #[.int k b,.int l d]):=by rw[h,h2]
theorem aaf{P:Program}{f:FuncId}{args:Array Value}{W:World}{v:Value}(h:Calls P f args W fun e w'=>e= .returned v∧W=w'):Calls P f args W fun e w'=>e= .returned v∧w'=W:=h.mono fun _ _ ⟨a,b⟩=>⟨a,b.symm⟩
theorem below_drewN{B:Nat}{a w:World}(h:Below B a w)(n:Nat):Below B a (w.drewN n):=⟨h.os,h.tape,h.output,h.size,h.block⟩
section
variable{H:Type}{enc:TypeId×Value→H}{P:Program}{w:World}{base:Nat}{spare:Nat→Bool}{held:Bool}
open Go.ChangeShapes Go.WideShapes
end
end
end
section
section
open Go.RowKit
theorem aob:(prog.info? 5).map (fun i=>(i.zero,i.size,i.bytes))=some (some (.int .u8 0),1,1):=by kernel_rfl
theorem abX:(prog.info? 26).map (fun i=>(i.zero,i.size,i.bytes))=some (some (.int .u64 0),1,8):=by kernel_rfl
theorem ae5:(prog.info? 3).map (fun i=>(i.zero,i.size,i.bytes))=some (some (.int .i64 0),1,8):=by kernel_rfl
def Gv(w:World)(B:Nat)(A:Option Addr)(m:Nat)(xs:List Value):Prop:=
 xs.length=m∧(0<m→∃b off,A=some ⟨b,off,none⟩∧b<B∧∀j u,xs[j]? =some u→w.cell? ⟨b,off+j,none⟩=some u)
theorem cell_lt{w:World}{p:Addr}{u:Value}(h:w.cell? p=some u):p.block<w.heap.size:=by
 rcases Ie p.block w.heap.size with h1|h1
 ·exact h1
 ·exfalso
  simp[World.cell?,OV h1]at h
theorem Gv.len{w:World}{B m:Nat}{A:Option Addr}{xs:List Value}(h:Gv w B A m xs):xs.length=m:=h.1
theorem Gv.at_{w:World}{B m:Nat}{A:Option Addr}{xs:List Value}(h:Gv w B A m xs){j:Nat}(hj:j<m):
 ∃b off u,A=some ⟨b,off,none⟩∧b<B∧xs[j]? =some u∧w.cell? ⟨b,off+j,none⟩=some u:=by
 obtain⟨b,off,e,hb,hc⟩:=h.2 Y
 have hl:j<xs.length:=by rw[h.1];exact hj
 exact⟨b,off,xs[j],e,hb,Ar hl,hc j _ (Ar hl)⟩
theorem Gv.keep{w w':World}{B m:Nat}{A:Option Addr}{xs:List Value}(h:Gv w B A m xs)(hk:∀p:Addr,p.block<B→w'.cell? p=w.cell? p):Gv w' B A m xs:=
 ⟨h.1,fun hm=>by
  obtain⟨b,off,e,hb,hc⟩:=h.2 hm
  exact⟨b,off,e,hb,fun j u hu=>(hk _ hb).trans (hc j u hu)⟩⟩
theorem Gv.more{w:World}{B B' m:Nat}{A:Option Addr}{xs:List Value}(h:Gv w B A m xs)(hB:B≤B'):Gv w B' A m xs:=
 ⟨h.1,fun hm=>by
  obtain⟨b,off,e,hb,hc⟩:=h.2 hm
  exact⟨b,off,e,Y,hc⟩⟩
theorem Gv.below{w w':World}{B m:Nat}{A:Option Addr}{xs:List Value}(h:Gv w B A m xs)(hb:Below B w w'):Gv w' B A m xs:=h.keep fun _ hp=>hb.cell hp
theorem Gv.alloc{w:World}{B m:Nat}{A:Option Addr}{xs:List Value}(h:Gv w B A m xs)(hB:B≤w.heap.size)(o:Obj):Gv (w.alloc o) B A m xs:=
 h.keep fun p hp=>World.cell?_alloc_lt w o p Y
theorem Gv.drewN{w:World}{B m:Nat}{A:Option Addr}{xs:List Value}(h:Gv w B A m xs)(n:Nat):Gv (w.drewN n) B A m xs:=h
theorem Gv.nil{w:World}{B:Nat}{A:Option Addr}:Gv w B A 0 []:=⟨rfl,fun h=>absurd h Y⟩
theorem Gv.of_block{w:World}{g m:Nat}{cs:Array Value}{t:TypeId}(h:w.heap[g]? =some (.cells cs t (0,0)))(hg:g<w.heap.size)(hm:cs.size=m):Gv w w.heap.size (some ⟨g,0,none⟩) m cs.toList:=
 ⟨by simpa using hm,fun _=>⟨g,0,rfl,hg,fun j u hu=>by
  rw[Joins.cell_of_block h];simpa using hu⟩⟩
def Ints(k:IntKind)(zs:List Int):Prop:=∀z∈zs,(Lit.int k z).wf=true
theorem Gv.int{k:IntKind}{w:World}{B m:Nat}{A:Option Addr}{xs:List Int}(h:Gv w B A m (xs.map (Value.int k)))(hi:Ints k xs){j:Nat}(hj:j<m):
 ∃b off z,A=some ⟨b,off,none⟩∧b<B∧xs[j]? =some z∧(Lit.int k z).wf=true∧w.cell? ⟨b,off+j,none⟩=some (.int k z):=by
 obtain⟨b,off,u,e,hb,hx,hc⟩:=h.at_ hj
 rw[BG]at hx
 cases hz:xs[j]? with
 |none=>rw[hz]at hx;simp at hx
 |some z=>
  rw[hz]at hx
  simp at hx
  exact⟨b,off,z,e,hb,rfl,hi z (A8 hz),by rw[hc,hx]⟩
theorem UD{α:Type}{l:List α}{j:Nat}{z:α}(h:l[j]? =some z):l.take (j+1)=l.take j++ [z]:=by
 rw[Fj,h];rfl
theorem Zw{w:World}{base:Nat}{e:TypeId}{size n:Nat}{v:Value}{xs:List Value}(h:w.ownsRow base e size v n xs):∀k,v.ownBlock=some k→base≤k:=by
 intro k hk
 rcases h.2 with⟨rfl,_⟩|⟨g,cap,cur,rfl,hg,_⟩
 ·simp[Value.ownBlock]at hk
 ·simp[Value.ownBlock]at hk;omega
theorem aeZ{P:Program}{w:World}{ops:Array Oper}{rest:List Oper}{o:Oper}{a:Act}{Q:Exit→Act→World→Prop}(hgd:o.guard=none)(s x:Operand)(t:TypeId)
 (ho:o.op= .call {callee:= .builtin .append,args:= #[s,x],argTypes:= #[t,t]})
 (base:Nat) (e:TypeId) (i:TypeInfo) (z:Value) (bytes:Nat) (ht:P.underlying t=some (.slice e)) (hi:P.info? e=some i) (hz:i.zero=some z)
 (hsize:i.size=1) (hby:i.bytes=bytes) (hzs:z.cells.size=1)
 (v:Value) (n:Nat) (xs:List Value) (hs:a.eval s=v) (hown:w.ownsRow base e 1 v n xs) (u:Value) (c:Nat)
 (hx:a.eval x= .slice (some ⟨w.heap.size,0,none⟩) 1 c) (hu:u.oneCell'=true)
 (h63:n+1≤maxLen) (hbytes:(n+1)*bytes≤140737488355328) (hbase:base≤w.heap.size) (B:Nat) (w0:World) (hb:Below B w0 w) (hB:B≤base)
 (h:∀v' w',w'.ownsRow base e 1 v' (n+1) (xs++ [u])→Below B w0 w'→w.heap.size<w'.heap.size→(w.alloc (.cells #[u] e)).grownBy w' v.ownBlock→wpList P ops Q rest (a.put o.dst v') w'):
 wpList P ops Q (o::rest) a (w.alloc (.cells #[u] e)):=by
 refine wpList_append_own (P:=P) (w.alloc (.cells #[u] e)) hgd s x t ho base e i z 1 bytes ht hi hz hsize hby hzs Ae v n xs hs (hown.alloc _) ⟨w.heap.size,0,none⟩ 1 c [u] hx O ?_ ?_ h63 hbytes Af ?_
 ·intro j u' hj
  match j,hj with
  |0,hj=>simp at hj;subst hj;simp[Addr.add]
 ·intro u' hj;simp at hj;subst hj;exact hu
 ·intro v' w' h1 h2 _
  have h3:Below B w0 (w.alloc (.cells #[u] e)):=hb.alloc Y _
  have h4:=h2.size
  simp at h4
  exact h v' w' h1 (h3.grown h2 Af (fun k hk=>F9 hB (Zw hown k hk))) Y h2
theorem Gv.asu{w:World}{base n:Nat}{e:TypeId}{A:Option Addr}{c:Nat}{xs:List Value}(h:w.ownsRow base e 1 (.slice A n c) n xs):Gv w w.heap.size A n xs:=by
 refine⟨by simpa using h.1,fun hn=>?_⟩
 obtain⟨g,cap,hv,hlt⟩:∃g cap,Value.slice A n c= .slice (some ⟨g,0,none⟩) n cap∧g<w.heap.size:=by
  rcases h.2 with⟨_,h0⟩|⟨g,cap,cur,hv,_,hh,_⟩
  ·omega
  ·refine⟨g,cap,hv,?_⟩
   rcases Ie g w.heap.size with h1|h1
   ·exact h1
   ·rw[OV h1]at hh;cases hh
 obtain⟨rfl,rfl⟩:A=some ⟨g,0,none⟩∧c=cap:=by injection hv with h1 _ h3;exact⟨h1,h3⟩
 refine⟨g,0,rfl,hlt,fun j u hu=>?_⟩
 have hx:=h.1
 have hj:j<xs.length:=(BA.1 hu).1
 rw[DT,h.cellAt j Y,hu]
theorem ajN{w:World}{base n:Nat}{e:TypeId}{size:Nat}{v:Value}{xs:List Value}(h:w.ownsRow base e size v n xs):∃A c,v= .slice A n c∧n≤c∧c≤maxLen∧(A=none→c=0):=by
 rcases h.2 with⟨rfl,rfl⟩|⟨g,cap,cur,rfl,_,_,h1,h2,_⟩
 ·exact⟨none,0,rfl,Bg _,JK _,fun _=>rfl⟩
 ·exact⟨some ⟨g,0,none⟩,cap,rfl,h1,h2,fun h=>by cases h⟩
theorem wf_u8{z:Int}(h:0≤z∧z≤255):(Lit.int .u8 z).wf=true:=by
 simp[Lit.wf,IntKind.min,IntKind.max,IntKind.signed,IntKind.bits];omega
theorem wf_u64{z:Int}(h:0≤z∧z≤18446744073709551615):(Lit.int .u64 z).wf=true:=by
 simp[Lit.wf,IntKind.min,IntKind.max,IntKind.signed,IntKind.bits];omega
theorem wf_i64{z:Int}(h: -9223372036854775808≤z∧z≤9223372036854775807):(Lit.int .i64 z).wf=true:=by
 simp[Lit.wf,IntKind.min,IntKind.max,IntKind.signed,IntKind.bits];omega
theorem Vu{P:Program}(w:World){T E:TypeId}{n:Nat}{kk:IntKind}{i0:TypeInfo}(ht:P.underlying T=some (.array n E))(he:P.underlying E=some (.int kk))(hc:P.cellsOf E=1)(hi:P.info? E=some i0)
 (cs:Array Value) (k:IntKind) (i:Int) (u:Value) (h0:0≤i) (h1:i<n) (hu:cs[i.toNat]? =some u):(Instr.index T (.agg cs) (.int k i)).run P w= .ok u w:=by
 simp[Instr.index,asIntOf,run_underlying ht,run_sizeOf w hi,hc,part,isAgg,run_underlying he,h0,h1,hu]
theorem wpList_store_row{P:Program}{w:World}{ops:Array Oper}{rest:List Oper}{o:Oper}{a:Act}{Q:Exit→Act→World→Prop}(hgd:o.guard=none)(T:TypeId)(p x:Operand)(ho:o.op= .store T p x)
 (g:Nat) (cur cs:Array Value) (t:TypeId) (hp:a.eval p= .pointer (some ⟨g,0,none⟩)) (hx:a.eval x= .agg cs) (hg:w.heap[g]? =some (.cells cur t (0,0))) (hsz:cs.size=cur.size)
 {i0:TypeInfo} (hi:P.info? T=some i0) (hT:P.cellsOf T=cs.size) (h1:∀v∈cs.toList,v.oneCell'=true)
 (h:wpList P ops Q rest (a.put o.dst undef) (w.setRow g cs)):wpList P ops Q (o::rest) a w:=by
 refine wpList_plain hgd fun K hK=>?_
 have hs:=run_storeCells_at (P:=P) g 0 t cs.toList 0 cur w hg (by simp[hsz]) h1
 have e:(cur.toList.take (0+0)++cs.toList++cur.toList.drop (0+0+cs.toList.length)).toArray=cs:=by
  have hd:cur.toList.drop (0+0+cs.toList.length)=[]:=LJ (by simp[hsz])
  rw[hd];simp
 rw[e]at hs
 have hv:(storeVar T ⟨g,0,none⟩ (.agg cs)).run P w= .ok () (w.setRow g cs):=by
  have hc:(Value.agg cs).cells=cs:=rfl
  simp only[storeVar,Sem.run_bind,run_sizeOf w hi,Result.andThen_ok,hc,hT,ne_eq,not_true_eq_false,if_false]
  exact hs
 unfold Oper.wp execOp
 simp only[ho,hp,hx,Instr.storeAt,Instr.sureAddr,Sem.run_bind,Sem.run_pure,Result.andThen_ok,hv]
 exact hK _ _ h
theorem I5{w W w':World}{p1 p2:Addr}{v1 v2:Value}(hb:Below W.heap.size W w')(h:W.cell? p1=some v1∧W.cell? p2=some v2∧Below w.heap.size w W):w'.cell? p1=some v1∧w'.cell? p2=some v2∧Below w.heap.size w w':=by
 obtain⟨h1,h2,hB⟩:=h
 exact⟨(hb.cell (cell_lt h1)).trans h1,(hb.cell (cell_lt h2)).trans h2,hB.trans (hb.mono hB.size)⟩
theorem IY{w W:World}{p1 p2:Addr}{v1 v2:Value}(o:Obj)(h:W.cell? p1=some v1∧W.cell? p2=some v2∧Below w.heap.size w W):(W.alloc o).cell? p1=some v1∧(W.alloc o).cell? p2=some v2∧Below w.heap.size w (W.alloc o):=by
 obtain⟨h1,h2,hB⟩:=h
 exact⟨(World.cell?_alloc_lt W o p1 (cell_lt h1)).trans h1,(World.cell?_alloc_lt W o p2 (cell_lt h2)).trans h2,hB.alloc hB.size o⟩
theorem Ul{w W:World}{p1 p2:Addr}{v1 v2:Value}(h:W.cell? p1=some v1∧W.cell? p2=some v2∧Below w.heap.size w W):W.drew.cell? p1=some v1∧W.drew.cell? p2=some v2∧Below w.heap.size w W.drew:=by
 obtain⟨h1,h2,hB⟩:=h
 exact⟨h1,h2,hB.drew⟩
theorem TD{w W w':World}{p1 p2 p3:Addr}{v1 v2 v3:Value}(hb:Below W.heap.size W w')(h:W.cell? p1=some v1∧W.cell? p2=some v2∧W.cell? p3=some v3∧Below w.heap.size w W):w'.cell? p1=some v1∧w'.cell? p2=some v2∧w'.cell? p3=some v3∧Below w.heap.size w w':=by
 obtain⟨h1,h2,h3,hB⟩:=h
 exact⟨(hb.cell (cell_lt h1)).trans h1,(hb.cell (cell_lt h2)).trans h2,(hb.cell (cell_lt h3)).trans h3,hB.trans (hb.mono hB.size)⟩
theorem UH{w W:World}{p1 p2 p3:Addr}{v1 v2 v3:Value}(o:Obj)(h:W.cell? p1=some v1∧W.cell? p2=some v2∧W.cell? p3=some v3∧Below w.heap.size w W):(W.alloc o).cell? p1=some v1∧(W.alloc o).cell? p2=some v2∧(W.alloc o).cell? p3=some v3∧Below w.heap.size w (W.alloc o):=by
 obtain⟨h1,h2,h3,hB⟩:=h
 exact⟨(World.cell?_alloc_lt W o p1 (cell_lt h1)).trans h1,(World.cell?_alloc_lt W o p2 (cell_lt h2)).trans h2,(World.cell?_alloc_lt W o p3 (cell_lt h3)).trans h3,hB.alloc hB.size o⟩
theorem ahy{w W:World}{p1 p2 p3:Addr}{v1 v2 v3:Value}(h:W.cell? p1=some v1∧W.cell? p2=some v2∧W.cell? p3=some v3∧Below w.heap.size w W):W.drew.cell? p1=some v1∧W.drew.cell? p2=some v2∧W.drew.cell? p3=some v3∧Below w.heap.size w W.drew:=by
 obtain⟨h1,h2,h3,hB⟩:=h
 exact⟨h1,h2,h3,hB.drew⟩
end
end
section
section
open Go.RowKit
def KE(W:World)(b:Nat)(cs:Array Value)(T:TypeId):Prop:=W.heap[b]? =some (.cells cs T (0,0))
theorem KE.lt{W:World}{b:Nat}{cs:Array Value}{T:TypeId}(h:KE W b cs T):b<W.heap.size:=by
 rcases Ie b W.heap.size with h1|h1
 ·exact h1
 ·unfold KE at h;rw[OV h1]at h;cases h
theorem KE.cell{W:World}{b:Nat}{cs:Array Value}{T:TypeId}(h:KE W b cs T)(i:Nat)(u:Value)(hu:cs[i]? =some u):W.cell? ⟨b,i,none⟩=some u:=by
 rw[Joins.cell_of_block h];exact hu
theorem KE.frozen{W:World}{b:Nat}{cs:Array Value}{T:TypeId}(h:KE W b cs T)(i:Nat):W.frozen? ⟨b,i,none⟩=false:=frozen_of_row W b i cs T h
theorem KE.below{W W':World}{B b:Nat}{cs:Array Value}{T:TypeId}(h:KE W b cs T)(hb:Below B W W')(hB:b<B):KE W' b cs T:=by
 unfold KE at*;rw[hb.block b hB];exact h
theorem KE.new(w:World)(cs:Array Value)(T:TypeId):KE (w.alloc (.cells cs T)) w.heap.size cs T:=heap_alloc_new w _
theorem KE.new1(w:World)(o:Obj)(cs:Array Value)(T:TypeId):KE ((w.alloc o).alloc (.cells cs T)) (w.heap.size+1) cs T:=by
 have:=KE.new (w.alloc o) cs T
 rwa [World.size_alloc]at this
theorem KE.new2(w:World)(o p:Obj)(cs:Array Value)(T:TypeId):KE (((w.alloc o).alloc p).alloc (.cells cs T)) (w.heap.size+1+1) cs T:=by
 have:=KE.new ((w.alloc o).alloc p) cs T
 rwa [World.size_alloc,World.size_alloc]at this
theorem Gv.Zb{W:World}{b:Nat}{cs:Array Value}{T:TypeId}(h:KE W b cs T)(m:Nat)(hm:m≤cs.size):Gv W W.heap.size (some ⟨b,0,none⟩) m (cs.toList.take m):=by
 refine⟨by simp;omega,fun _=>⟨b,0,rfl,h.lt,fun j u hu=>?_⟩⟩
 have hj:j<m:=by
  have:=(BA.1 hu).1
  simp at this;omega
 rw[Et hj]at hu
 rw[DT]
 exact h.cell j u (by simpa using hu)
theorem KE.alloc{W:World}{b:Nat}{cs:Array Value}{T:TypeId}(h:KE W b cs T)(o:Obj):KE (W.alloc o) b cs T:=
 h.below ((Below.refl W.heap.size W).alloc (Bg _) o) h.lt
theorem KE.drewN{W:World}{b:Nat}{cs:Array Value}{T:TypeId}(h:KE W b cs T)(n:Nat):KE (W.drewN n) b cs T:=h
theorem KE.drew{W:World}{b:Nat}{cs:Array Value}{T:TypeId}(h:KE W b cs T):KE W.drew b cs T:=h
theorem KE.set{W:World}{b:Nat}{cs:Array Value}{T:TypeId}(h:KE W b cs T)(j:Nat)(u:Value):KE (W.setCell ⟨b,j,none⟩ u) b (cs.setIfInBounds j u) T:=heap_setCell_same W b j cs T u h
theorem KE.other{W:World}{b:Nat}{cs:Array Value}{T:TypeId}(h:KE W b cs T)(p:Addr)(u:Value)(hp:p.block≠b):KE (W.setCell p u) b cs T:=by
 unfold KE;rw[heap_setCell_other W p b u (by simpa using fun e=>hp e.symm)];exact h
end
end
section
section
open Go.RowKit
end
end
section
section
open Go.RowKit
theorem KE.setRow{W:World}{b:Nat}{old:Array Value}{T:TypeId}(h:KE W b old T)(cs:Array Value):KE (W.setRow b cs) b cs T:=setRow_heap W b old cs T (0,0) h
theorem KE.setRow_other{W:World}{b g:Nat}{old:Array Value}{T:TypeId}(h:KE W b old T)(cs:Array Value)(hne:b≠g):KE (W.setRow g cs) b old T:=by
 unfold KE;rw[Go.setRow_other W g b cs hne];exact h
end
end
section
section
open Go.RowKit
theorem ame{w:World}{base base' n size:Nat}{e:TypeId}{v:Value}{xs:List Value}(h:w.ownsRow base e size v n xs)(hb:base'≤base):w.ownsRow base' e size v n xs:=by
 refine⟨h.1,?_⟩
 rcases h.2 with hn|⟨g,cap,cur,rfl,hg,rest⟩
 ·exact .inl hn
 ·exact .inr ⟨g,cap,cur,rfl,Y,rest⟩
end
end
section
section
open Go.RowKit
def eqB(xs ys:List Int):Bool:=decide (xs=ys)
theorem Ux(xs ys:List Int)(h:xs=ys):eqB xs ys=true:=by unfold eqB;simpa using h
theorem VF(xs ys:List Int)(h:xs≠ys):eqB xs ys=false:=by unfold eqB;simpa using h
end
end
section
section
open Go.RowKit
section
variable{P:Program}(w:World)
theorem Tm(d:Nat){e:TypeId}{kk k:IntKind}(he:P.underlying e=some (.int kk))(xs ys:List Int)(n:Nat)(hx:xs.length=n)(hy:ys.length=n):
 ∀is:List Nat,(∀i∈is,i<n)→(Op.eqItems (d+1) e 1 (xs.map (Value.int k)).toArray (ys.map (Value.int k)).toArray is).run P w= .ok (is.all fun i=>xs.getD i 0==ys.getD i 0) w
 | [],_=>by simp[Op.eqItems]
 |i::is,h=>by
  have hi:i<n:=h i J
  have px:(part e (xs.map (Value.int k)).toArray (i*1)).run P w= .ok (.int k (xs.getD i 0)) w:=by
   simp[part,isAgg,run_underlying he,List.getD,Ar (show i<xs.length by omega)]
  have py:(part e (ys.map (Value.int k)).toArray (i*1)).run P w= .ok (.int k (ys.getD i 0)) w:=by
   simp[part,isAgg,run_underlying he,List.getD,Ar (show i<ys.length by omega)]
  have ih:=Tm d (k:=k) he xs ys n hx hy is (fun j hj=>h j (by simp[hj]))
  simp only[Op.eqItems,Sem.run_bind,px,py,run_equalIn_int w d e k kk _ _ he,Result.andThen_ok,List.all_cons]
  cases hb:(xs.getD i 0==ys.getD i 0)
  ·simp
  ·simpa using ih
theorem Tv(d:Nat){t e:TypeId}{n:Nat}{kk k:IntKind}(ht:P.underlying t=some (.array n e))(he:P.underlying e=some (.int kk)){i:TypeInfo}(hi:P.info? e=some i)(hc:P.cellsOf e=1)(xs ys:List Int)(hx:xs.length=n)(hy:ys.length=n):
 (Op.equalIn (d+2) t (.agg (xs.map (Value.int k)).toArray) (.agg (ys.map (Value.int k)).toArray)).run P w= .ok (eqB xs ys) w:=by
 rw[run_equalIn_array w (d+1) _ _ ht hi,hc,Tm w d he xs ys n hx hy (List.range n) (fun i hi=>H7.1 hi)]
 congr 1
 unfold eqB
 rw[Bool.eq_iff_iff]
 simp only[Ll,H7,beq_iff_eq,decide_eq_true_eq]
 constructor
 ·intro h
  apply FU Y
  intro j h1 h2
  have:=h j Y
  simpa [List.getD,Ar h1,Ar h2]using this
 ·rintro rfl _ _;rfl
end
end
end
section
namespace Cl
open Go Go.RowKit
def szs:List Int:=[2,3,4,5,6,7,8,10,12,14,16,18,20,24,28,32,36,40,46,51,56,64,73,85,92,102,113,128,146,170,204,256]
def sz(j:Nat):Int:=szs.getD j 0
def SZ:Value:= .agg (szs.map (Value.int .i64)).toArray
def words(k:Int):Int:=if 0≤k∧k<32 then sz k.toNat else 0
theorem ajD(k:Int)(h:k<0∨32≤k):words k=0:=by unfold words;rw[if_neg Y]
theorem X0(k:Int)(h:0≤k)(h2:k<32):words k=sz k.toNat:=by unfold words;rw[if_pos ⟨h,h2⟩]
theorem aqP:∀j<32,2≤sz j∧sz j≤256:=by decide
theorem aoV:∀j<31,sz j<sz (j+1):=by decide
theorem Tc(k:Int):0≤words k∧words k≤256:=by
 unfold words;split
 ·have:=aqP k.toNat Y;omega
 ·omega
theorem Hg(k:Int)(h:0≤k)(h2:k<32):2≤words k:=by rw[X0 k h h2];exact(aqP k.toNat Y).1
theorem apf(d:Nat):∀j,j+d<32→sz j≤sz (j+d):=by
 induction d with
 |zero=>intro j _;exact Vs _
 |succ d ih=>
  intro j h;have a:=ih j Y;have b:=aoV (j+d) Y;have e:j+(d+1)=j+d+1:=Y
  rw[e];omega
theorem ahp(i j:Int)(h0:0≤i)(h:i≤j)(h2:j<32):words i≤words j:=by
 rw[X0 i h0 Y,X0 j Y h2]
 have:=apf (j.toNat-i.toNat) i.toNat Y
 rwa [show i.toNat+(j.toNat-i.toNat)=j.toNat from by omega]at this
theorem avT(k:Int)(h:0≤k)(h2:k<32):(szs.map (Value.int .i64)).toArray[k.toNat]? =some (.int .i64 (words k)):=by
 rw[X0 k h h2]
 have hl:szs.length=32:=rfl
 have:k.toNat<szs.length:=Y
 simp[sz,Ar this]
def Least(n k:Int):Prop:=0≤k∧k<32∧n≤words k∧∀j,0≤j→j<k→words j<n
theorem Least.unique{n k l:Int}(h:Least n k)(h2:Least n l):k=l:=by
 obtain⟨a1,a2,a3,a4⟩:=h
 obtain⟨b1,b2,b3,b4⟩:=h2
 rcases MJ k l with h|h|h
 ·have:=b4 k a1 h;omega
 ·exact h
 ·have:=a4 l b1 h;omega
theorem Least.bd{n k:Int}(h:Least n k):0≤k∧k<32:=⟨h.1,h.2.1⟩
theorem Least.lt{n k:Int}(h:Least n k)(j:Int)(h0:0≤j)(h1:j<k):words j<n:=h.2.2.2 j h0 h1
theorem Least.le{n k:Int}(h:Least n k):n≤words k:=h.2.2.1
def Zl(n:Int):Nat→Nat→Nat
 |0,j=>j
 |f+1,j=>if n≤words j then j else Zl n f (j+1)
theorem ahj(n:Int)(f:Nat):∀j,j+f≤31→(∀i:Int,0≤i→i<j→words i<n)→(∃k:Int,(j:Int)≤k∧k≤j+f∧n≤words k)→Least n (Zl n f j):=by
 induction f with
 |zero=>
  intro j hj h1 ⟨k,k1,k2,k3⟩
  obtain rfl:k=(j:Int):=Y
  exact⟨by unfold Zl;omega,by unfold Zl;omega,by unfold Zl;exact k3,by unfold Zl;exact h1⟩
 |succ f ih=>
  intro j hj h1 ⟨k,k1,k2,k3⟩
  unfold Zl
  by_cases h:n≤words j
  ·rw[if_pos h];exact⟨Y,Y,h,h1⟩
  ·rw[if_neg h]
   refine ih (j+1) Y (fun i i0 i1=>?_) ⟨k,?_,Y,k3⟩
   ·by_cases hi:i<j
    ·exact h1 i i0 hi
    ·obtain rfl:i=(j:Int):=Y
     omega
   ·rcases Int.lt_or_le j k with h2|h2
    ·omega
    ·obtain rfl:k=(j:Int):=Y
     omega
def WQ(n:Int):Int:=if 1≤n∧n≤256 then(Zl n 31 0:Nat)else 0
def ofB(n:Int):Bool:=decide (1≤n∧n≤256)
theorem SY(n:Int)(h1:1≤n)(h2:n≤256):Least n (WQ n):=by
 have h31:n≤words 31:=by
  have:words 31=256:=by decide
  omega
 unfold WQ
 rw[if_pos ⟨h1,h2⟩]
 exact ahj n 31 0 Y (fun i a b=>Y) ⟨31,Y,Y,h31⟩
theorem ad1(n:Int)(h:n<1∨256<n):WQ n=0:=by unfold WQ;rw[if_neg Y]
theorem QO(n:Int):0≤WQ n∧WQ n<32:=by
 by_cases h:1≤n∧n≤256
 ·exact(SY n h.1 h.2).bd
 ·rw[ad1 n Y];omega
theorem aoh(n:Int)(h1:1≤n)(h2:n≤256):ofB n=true:=by unfold ofB;simp;omega
theorem al9(n:Int)(h:n<1∨256<n):ofB n=false:=by unfold ofB;simp;omega
theorem aif:words 31=256:=by decide
def cells(k:Int):Int:=if 0≤k∧k<32 then 512/words k else 0
theorem akE(k:Int)(h:k<0∨32≤k):cells k=0:=by unfold cells;rw[if_neg Y]
theorem abV(k:Int)(h:0≤k)(h2:k<32):cells k=512/words k:=by unfold cells;rw[if_pos ⟨h,h2⟩]
theorem Yy(k:Int):0≤cells k∧cells k≤256:=by
 unfold cells;split
 ·rename_i h
  have:=Hg k h.1 h.2
  refine⟨Qc Y Y,?_⟩
  have h3:512/words k<257:=(Int.ediv_lt_iff_lt_mul (show 0<words k by omega)).2 Y
  omega
 ·omega
theorem abu(k n:Int)(h:0≤k)(h2:k<32)(hn:0≤n):(n+1)*words k≤512↔n<cells k:=by
 have hp:=Hg k h h2
 rw[abV k h h2]
 constructor
 ·intro hh
  have:=(LD (show 0<words k by omega)).2 hh
  omega
 ·intro hh
  exact(LD (show 0<words k by omega)).1 Y
def size(p d:Int):Int:=if p<0∨p>63∨d<0∨d>16384 then 0 else 1+p+d
def Fh(k:Int):Bool:=decide (0≤k∧k<32)
theorem FY(k:Int)(h:0≤k)(h2:k<32):Fh k=true:=by unfold Fh;simp;omega
theorem Ju(k:Int)(h:k<0∨32≤k):Fh k=false:=by unfold Fh;simp;omega
def LM(n j:Int):Prop:=∀i:Int,0≤i→i<j→words i<n
theorem LM.zero(n:Int):LM n 0:=fun i a b=>by omega
theorem LM.succ{n j:Int}(h:LM n j)(hj:words j<n):LM n (j+1):=fun i a b=>by
 by_cases hi:i<j
 ·exact h i a hi
 ·obtain rfl:i=j:=Y
  exact hj
theorem LM.up{n j m:Int}(h:words m<n)(hm:m<32):LM n (m+1):=fun i a b=>by
 have:=ahp i m a Y hm
 omega
theorem LM.least{n j:Int}(h:LM n j)(h0:0≤j)(h1:j<32)(h2:n≤words j):Least n j:=⟨h0,h1,h2,h⟩
def abY(p d:Int):Int:=if p<0∨p>63∨d<0∨d>16384 then 5 else 0
theorem QU(p d:Int)(h:p<0∨p>63∨d<0∨d>16384):size p d=0∧abY p d=5:=by unfold size abY;rw[if_pos h,if_pos h];exact⟨rfl,rfl⟩
theorem LY(p d:Int)(h1:0≤p)(h2:p≤63)(h3:0≤d)(h4:d≤16384):size p d=1+p+d∧abY p d=0:=by unfold size abY;rw[if_neg Y,if_neg Y];exact⟨rfl,rfl⟩
theorem aat(p d:Int):0≤size p d∧size p d≤16448:=by unfold size;split<;>omega
end Cl
end
section
section
open Go.RowKit
theorem as9:∀v∈(Cl.szs.map (Value.int .i64)).toArray.toList,v.oneCell'=true:=by
 intro v hv
 obtain⟨z,_,rfl⟩:=BX.1 (by simpa using hv)
 rfl
theorem amY:(prog.info? 203).isSome=true:=by kernel_rfl
theorem ajv(w:World):Calls prog 247 #[] w fun e w'=>e= .returned Cl.SZ∧Below w.heap.size w w':=by
 obtain⟨i32,ard⟩:=Jd.1 amY
 go_enter func247,Tryz.ntmps247
 go_wp2_with (refine wpList_store_row (P:=prog) rfl 203 (.tmp 0) (.tmp 1) rfl w.heap.size _ (Cl.szs.map (Value.int .i64)).toArray 203 rfl rfl (heap_alloc_new w _) rfl ard Ak as9 ?_)
 exact bodyPost_ret (v:=Cl.SZ) (results_cell_row rfl _ _ w.heap.size 203 (Cl.szs.map (Value.int .i64)).toArray (0,0) _ rfl (setRow_heap _ _ _ _ _ _ (heap_alloc_new w _)) underlying203 rfl Ak) rfl ⟨rfl,below_setRow ((Below.refl _ _).alloc (Bg _) _) (Bg _) _⟩
theorem Jv(k:Int)(w:World)(h1: -9223372036854775808≤k)(h2:k≤9223372036854775807):Calls prog 197 #[.int .i64 k] w fun e w'=>e= .returned (.bool (Cl.Fh k))∧w=w':=by
 by_cases c1:k<0
 ·have e:=Lib.hid (Cl.Ju k (.inl c1))
  go_enter func197,Tryz.ntmps197
  go_wp2
  go_ret
  exact⟨FN e.out.symm,rfl⟩
 ·by_cases c2:k<32
  ·have e:=Lib.hid (Cl.FY k Y c2)
   go_enter func197,Tryz.ntmps197
   go_wp2
   go_ret
   exact⟨FN (by rw[e.out]),rfl⟩
  ·have e:=Lib.hid (Cl.Ju k (.inr Y))
   go_enter func197,Tryz.ntmps197
   go_wp2
   go_ret
   exact⟨FN (by rw[e.out]),rfl⟩
theorem QE(k:Int)(w:World)(h1: -9223372036854775808≤k)(h2:k≤9223372036854775807):Calls prog 198 #[.int .i64 k] w fun e w'=>e= .returned (.int .i64 (Cl.words k))∧Below w.heap.size w w':=by
 by_cases c:0≤k∧k<32
 ·obtain⟨c1,c2⟩:=c
  have hr:=Cl.FY k c1 c2
  obtain⟨i0,hi0,_,_,_⟩:=info_parts ae5
  have hx:∀W,(Instr.index 203 Cl.SZ (.int .i64 k)).run prog W= .ok (.int .i64 (Cl.words k)) W:=fun W=>
   Vu W underlying203 underlying3 Ak hi0 _ _ _ _ c1 c2 (Cl.avT k c1 c2)
  clear hi0
  go_enter func198,Tryz.ntmps198
  go_wp2_with (first
   |(go_at_call 247;refine(ajv _).mono ?_;rintro e w1 ⟨rfl,hb⟩)
   |(go_at_call 197;refine(Jv _ _ Y Y).mono ?_;rintro e w' ⟨rfl,rfl⟩))
  go_ret
  exact⟨rfl,hb⟩
 ·have e:=Lib.hid (Cl.ajD k Y)
  have hr:=Cl.Ju k Y
  go_enter func198,Tryz.ntmps198
  go_wp2_with (first
   |(go_at_call 197;refine(Jv _ _ Y Y).mono ?_;rintro e w' ⟨rfl,rfl⟩))
  go_ret
  exact⟨FB e.out.symm,Below.refl _ _⟩
theorem afX(w:World):Calls prog 246 #[] w fun e w'=>e= .returned (.int .i64 256)∧Below w.heap.size w w':=by
 have h31:=Cl.aif
 go_enter func246,Tryz.ntmps246
 go_wp2_with (first
  |(go_at_call 198;refine(QE _ _ Y Y).mono ?_;rintro e w1 ⟨rfl,hb⟩))
 go_ret
 exact⟨FB (by first|rfl|exact h31),hb⟩
theorem YB(k:Int)(w:World)(h1: -9223372036854775808≤k)(h2:k≤9223372036854775807):Calls prog 131 #[.int .i64 k] w fun e w'=>e= .returned (.int .i64 (Cl.cells k))∧Below w.heap.size w w':=by
 by_cases c:0≤k∧k<32
 ·obtain⟨c1,c2⟩:=c
  have hr:=Cl.FY k c1 c2
  have hp:=Cl.Hg k c1 c2
  have hbd:=Cl.Tc k
  have e:=Lib.hid (Cl.abV k c1 c2)
  go_enter func131,Tryz.ntmps131
  go_wp2_with (first
   |(go_at_call 198;refine(QE _ _ Y Y).mono ?_;rintro e w1 ⟨rfl,hb⟩)
   |(go_at_call 197;refine(Jv _ _ Y Y).mono ?_;rintro e w' ⟨rfl,rfl⟩))
  go_ret
  exact⟨FB e.out.symm,hb⟩
 ·have e:=Lib.hid (Cl.akE k Y)
  have hr:=Cl.Ju k Y
  go_enter func131,Tryz.ntmps131
  go_wp2_with (first
   |(go_at_call 197;refine(Jv _ _ Y Y).mono ?_;rintro e w' ⟨rfl,rfl⟩))
  go_ret
  exact⟨FB e.out.symm,Below.refl _ _⟩
end
end
end Go.Proofs.YtppilhpcmkekbaaGreat
