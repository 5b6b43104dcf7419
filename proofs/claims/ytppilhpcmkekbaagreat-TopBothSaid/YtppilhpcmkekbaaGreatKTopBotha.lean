/- Parts of the proof. -/
import Derived.Test.YtppilhpcmkekbaaGreatRows
import Derived.WalkKit
import Derived.WalkLawsBesides
import Derived.WalkSpells
import Derived.Laws.BitsAllLaws
import Derived.Lib.Hide
import Derived.ProofKit
import Derived.OpenShut
import Derived.ShutString
import Derived.ChangeOld
import Derived.Below
import Derived.Lib.SmallJoins
import Derived.BigQuiet
import Derived.Outline
import Derived.Deep.QuietTactic
import Derived.Laws.AppendOwnNone
import Derived.ChangeKeysEq
import Derived.Laws.CopyOwn
import Derived.Deep.RegionHeld3
import Derived.Laws.StructEq
set_option linter.unusedSimpArgs false
set_option linter.unusedVariables false
set_option linter.unusedSectionVars false
set_option maxRecDepth 100000
set_option maxHeartbeats 16000000
namespace Go.Proofs.YtppilhpcmkekbaaGreat
open Go.Proofs.Tryz
structure Zq(r:Prop):Prop where o:r
theorem O{α:Sort _}{a:α}:a=a:=rfl
theorem Y{p:Prop}(h:p:=by omega):p:=h
theorem J{p:Prop}(h:p:=by simp):p:=h
abbrev Ba:=@List.getElem?_eq_getElem
abbrev BN:=@List.getD_eq_getElem?_getD
abbrev BP:=@List.mem_of_getElem?
abbrev BF:=@Nat.le_refl
abbrev BR:=@Int.eq_ofNat_of_zero_le
abbrev BJ:=@Int.toNat_natCast
abbrev BK:=@List.getElem?_eq_some_iff
abbrev Bz:=@List.mem_singleton
abbrev Cb:=@List.getElem?_map
abbrev Ci:=@List.mem_append
abbrev CO:=@List.mem_append_left
abbrev DN:=@List.mem_map
abbrev EY:=@List.map_append
abbrev DU:=@List.eq_nil_of_length_eq_zero
abbrev DL:=@List.length_map
abbrev Cj:=@List.length_append
abbrev Du:=@List.mem_append_right
abbrev Dn:=@List.length_replicate
abbrev Bd:=@List.set_cons_succ
abbrev C9:=@List.nodup_append
abbrev OL:=@List.length_drop
abbrev Dh:=@List.mem_cons
abbrev Bf:=@List.set_cons_zero
abbrev DJ:=@List.map_cons
abbrev Dl:=@List.append_nil
abbrev Gg:=@List.mem_iff_getElem
abbrev EH:=@Nat.zero_add
abbrev Ed:=@List.length_take
abbrev DX:=@List.getElem?_eq_none
abbrev Ew:=@List.getElem?_replicate
abbrev EK:=@List.append_assoc
abbrev F9:=@List.take_length
abbrev EW:=@List.getElem?_drop
abbrev JA:=@List.map_congr_left
abbrev Ef:=@List.map_nil
abbrev Em:=@List.getElem?_append_right
abbrev Es:=@List.length_cons
abbrev DZ:=@List.mem_cons_of_mem
abbrev EJ:=@List.getElem?_set
abbrev Fp:=@List.take_of_length_le
abbrev Gs:=@List.getElem?_append_left
abbrev Eh:=@Nat.eq_of_testBit_eq
abbrev EU:=@List.ext_getElem?
abbrev ES:=@List.getElem?_take_of_lt
abbrev JK:=@List.ext_getElem
abbrev DY:=@List.mem_or_eq_of_mem_set
abbrev Mc:=@List.count_append
abbrev Fj:=@List.map_toArray
abbrev EL:=@List.cons_append
abbrev Ey:=@List.nil_append
abbrev EG:=@Option.map_some
abbrev LW:=@List.flatMap_cons
abbrev E5:=@List.getElem?_cons_succ
abbrev J8:=@List.take_add_one
abbrev KH:=@List.getElem_mem
abbrev Gz:=@List.replicate_succ
abbrev Ip:=@List.getElem?_range
abbrev Yy:=@List.getElem_map
abbrev HY:=@List.nodup_cons
abbrev Hz:=@List.length_set
abbrev Fe:=@List.getElem?_toArray
abbrev Ez:=@List.getElem?_set_ne
abbrev FQ:=@Bool.and_eq_true
abbrev FC:=@Nat.le_trans
abbrev JV:=@List.take_append_drop
abbrev IZ:=@Nat.add_assoc
abbrev Fg:=@List.mem_range
abbrev FV:=@Nat.lt_of_lt_of_le
abbrev anq:=@Nat.mul_zero
abbrev Hg:=@List.length_pos_iff
abbrev Gi:=@Nat.testBit_two_pow_mul_add
abbrev G7:=@List.map_set
abbrev Oq:=@List.map_map
abbrev Lm:=@Int.natCast_mul
abbrev J4:=@List.drop_eq_getElem_cons
abbrev Gy:=@Bool.true_and
abbrev Hw:=@Nat.sub_self
abbrev OH:=@List.perm_append_comm
abbrev Hq:=@List.eq_of_mem_replicate
abbrev W9:=@List.getElem_range
abbrev Ij:=@Nat.pow_le_pow_right
abbrev Jb:=@List.mem_of_mem_take
abbrev Gx:=@List.not_mem_nil
abbrev Gf:=@List.getElem?_set_self
abbrev Hf:=@List.pairwise_iff_getElem
abbrev J9:=@Nat.lt_or_ge
abbrev GV:=@Nat.eq_zero_or_pos
abbrev Ih:=@Nat.testBit_mod_two_pow
abbrev Jq:=@List.size_toArray
abbrev Jw:=@Option.map_none
abbrev FY:=@Int.toNat_of_nonneg
abbrev IG:=@Nat.testBit_succ
abbrev QK:=@List.getElem?_take
abbrev IK:=@Bool.false_eq_true
abbrev GY:=@Nat.mul_one
abbrev Jc:=@Bool.false_and
abbrev IC:=@Nat.shiftRight_eq_div_pow
abbrev agn:=@List.count_singleton
abbrev GZ:=@List.mem_filter
abbrev Iu:=@List.length_nil
abbrev Q9:=@List.foldl_append
abbrev I4:=@Option.isSome_iff_exists
abbrev Ld:=@Nat.mul_comm
abbrev Jh:=@Nat.zero_le
abbrev FH:=@List.eraseIdx_cons_zero
abbrev FD:=@List.eraseIdx_cons_succ
abbrev Ie:=@Array.toList_map
abbrev Py:=@List.take_append_of_le_length
abbrev PL:=@List.drop_append_of_le_length
abbrev JD:=@Nat.testBit_lt_two_pow
abbrev Js:=@Nat.testBit_two_pow_sub_succ
abbrev Kt:=@Nat.add_zero
abbrev Lj:=@Nat.min_eq_left
abbrev LG:=@List.set_append_right
abbrev Kv:=@Nat.xor_assoc
abbrev Kq:=@Array.toList_push
abbrev afo:=@List.mem_erase_of_ne
abbrev KJ:=@List.take_zero
abbrev Tt:=@List.all_eq_true
abbrev Nq:=@Int.natCast_ediv
abbrev KA:=@Array.toList_modify
abbrev Qd:=@Nat.pow_succ
abbrev Sj:=@List.length_erase_of_mem
abbrev Ht:=@Array.getElem?_replicate
abbrev Lu:=@Nat.testBit_and
abbrev Lr:=@List.range_succ
abbrev Lc:=@Nat.xor_lt_two_pow
abbrev JM:=@Array.ext_getElem?
abbrev Un:=@List.drop_of_length_le
abbrev adQ:=@List.drop_eq_nil_of_le
abbrev KW:=@Int.le_ediv_iff_mul_le
abbrev L6:=@Option.some.injEq
abbrev LQ:=@Int.lt_trichotomy
abbrev aaK:=@List.drop_drop
abbrev LJ:=@List.eraseIdx_sublist
abbrev YF:=@List.eq_nil_iff_forall_not_mem
abbrev Np:=@Nat.testBit_zero
abbrev O3:=@List.perm_middle
abbrev Nj:=@List.flatMap_nil
abbrev Jg:=@Nat.exists_eq_succ_of_ne_zero
abbrev MK:=@Nat.mul_le_mul_right
abbrev MG:=@List.pairwise_append
abbrev GX:=@List.getElem?_of_mem
abbrev Kw:=@List.map_take
abbrev LC:=@Array.getElem?_setIfInBounds
abbrev aqu:=@List.map_id
abbrev NR:=@Nat.testBit_xor
abbrev UG:=@Nat.div_le_self
abbrev NS:=@Nat.and_le_left
abbrev ZC:=@List.drop_left'
abbrev P8:=@List.replicate_zero
abbrev NI:=@List.mem_map_of_mem
abbrev L9:=@Nat.testBit_two_pow_sub_one
abbrev MR:=@Nat.mod_two_eq_zero_or_one
abbrev QJ:=@List.mem_replicate
abbrev abd:=@List.drop_zero
abbrev Ru:=@List.pairwise_map
abbrev Rj:=@List.getElem_take
abbrev ab7:=@List.Nodup.not_mem_erase
abbrev N9:=@Nat.exists_eq_add_of_le
abbrev TB:=@Option.getD_some
abbrev Y6:=@List.mem_flatMap
abbrev O7:=@List.drop_length
abbrev ael:=@List.length_pos_of_mem
abbrev Oj:=@Array.getElem?_eq_none
abbrev XK:=@Nat.add_comm
abbrev ZN:=@Nat.div_add_mod
abbrev PW:=@List.take_left'
abbrev P5:=@List.cons.injEq
abbrev PV:=@Int.ediv_nonneg
abbrev LD:=@Nat.le_of_ble_eq_true
abbrev aeU:=@List.set_getElem_self
abbrev aeV:=@List.mem_of_mem_erase
abbrev Ho:=@List.length_filter_le
abbrev OI:=@List.Perm.append_left
abbrev WL:=@Nat.mod_lt
abbrev PS:=@List.reverse_reverse
abbrev U5:=@List.mem_of_mem_drop
abbrev QB:=@List.Perm.refl
abbrev Rw:=@Int.one_mul
abbrev Qc:=@Nat.testBit_two_pow
abbrev NG:=@List.filter_eq_self
abbrev agC:=@List.drop_succ_cons
abbrev Wj:=@Array.length_toList
abbrev QT:=@Nat.one_le_two_pow
abbrev QD:=@Nat.lt_of_le_of_lt
abbrev QI:=@List.pairwise_cons
abbrev WJ:=@List.count_pos_iff
abbrev Om:=@Nat.testBit_eq_decide_div_mod_eq
abbrev Rl:=@List.reverse_cons
abbrev Rz:=@Bool.eq_false_iff
abbrev XV:=@Nat.le_total
abbrev TI:=@List.map_id'
abbrev YG:=@Int.mul_le_mul_of_nonneg_right
abbrev OQ:=@Nat.le_of_not_lt
abbrev Y0:=@List.prefix_refl
abbrev Px:=@Int.le_refl
abbrev akg:=@Int.natCast_add
abbrev Qe:=@Nat.two_pow_add_eq_or_of_lt
abbrev Qo:=@Array.getD_eq_getD_getElem?
abbrev Bc:=@List.setIfInBounds_toArray
abbrev QC:=@List.perm_ext_iff_of_nodup
abbrev Vx:=@Nat.testBit_or
abbrev am2:=@List.take_left
abbrev MS:=@Bool.and_false
abbrev WX:=@Nat.blt_eq
abbrev SX:=@Nat.testBit_two_pow_mul
abbrev N7:=@Nat.add_sub_cancel_left
abbrev adM:=@Nat.div_div_eq_div_mul
abbrev TT:=@List.getElem?_eraseIdx
abbrev XZ:=@Nat.zero_mul
abbrev Xy:=@Nat.xor_comm
abbrev ad2:=@Nat.sub_zero
abbrev UK:=@Nat.eq_of_beq_eq_true
abbrev UJ:=@List.singleton_append
abbrev UQ:=@List.getElem_set_self
abbrev JW:=@List.eq_nil_or_concat
abbrev JU:=@List.concat_eq_append
abbrev UM:=@Array.getElem?_toList
abbrev OG:=@Array.getElem?_append
theorem Am{p:Prop}(h:p:=by simp;omega):p:=h
theorem Ak{p:Prop}(h:p:=by decide):p:=h
theorem zB{p:Prop}(h:p:=by rw[JC];exact hc):p:=h
theorem zZ{p:Prop}(h:p:=by simpa using hi):p:=h
theorem zU{p:Prop}(h:p:=by simpa using h):p:=h
theorem Ai{p:Prop}(h:p:=by simp only[execOp,hx,hy,Sem.run_bind,hr,Result.andThen_ok];rfl):p:=h
theorem Ac{p:Prop}(h:p:=by unfold maxLen;omega):p:=h
theorem zX{p:Prop}(h:p:=by simp only[execOp,resolve,invoke,builtin,Fj,DJ,Ef,hd,hs,Sem.run_bind,Sem.run_pure,Result.andThen_ok,hrun];rfl):p:=h
theorem zQ{p:Prop}(h:p:=by simp only[execOp,Fj,DJ,Ef,hx,Sem.run_bind,r1,Result.andThen_ok];rfl):p:=h
theorem zN{p:Prop}(h:p:=by simpa using hj):p:=h
theorem zK{p:Prop}(h:p:=by intro e;exact hk (by simp[e])):p:=h
theorem zG{p:Prop}(h:p:=by rintro e a W' ⟨rfl,f',rfl,hR⟩;exact(h2 f' W' hR).out):p:=h
theorem Af{p:Prop}(h:p:=by simp only[execOp,resolve,invoke,builtin,Fj,DJ,Ef,hs,hy,Sem.run_bind,Sem.run_pure,Result.andThen_ok,hr]):p:=h
theorem zF{p:Prop}(h:p:=by rw[←ho.1];simpa using hi):p:=h
theorem zO{p:Prop}(h:p:=by rw[EX];exact Du _ hi):p:=h
theorem zT{p:Prop}(h:p:=by simpa using this):p:=h
theorem zV{p:Prop}(h:p:=by simp only[execOp,hx,hy,hu,Sem.run_bind,hrun,Result.andThen_ok,Sem.run_pure]):p:=h
theorem Aa{p:Prop}(h:p:=by simp only[execOp,hx,Sem.run_bind,hrun,Result.andThen_ok,Sem.run_pure]):p:=h
theorem Aw{p:Prop}(h:p:=by kernel_rfl):p:=h
theorem zW{p:Prop}(h:p:=by split<;>omega):p:=h
theorem Ar{p:Prop}(h:p:=by assumption):p:=h
theorem Ap{p:Prop}(h:p:=by first|exact BF _|(simp;done)|(simp;omega)):p:=h
theorem Ae{p:Prop}(h:p:=by simpa using hz):p:=h
theorem Ah{p:Prop}(h:p:=by simp only[execOp,resolve,invoke,builtin,Fj,DJ,Ef,hx,Sem.run_bind,Sem.run_pure,Result.andThen_ok,hrun]):p:=h
theorem Aq{p:Prop}(h:p:=by first|exact(Bh.EI _ _ _ Y).symm|exact(Bh.F5 _ _ _ Y).symm|(rw[Bh.EI _ _ _ Y];simp;omega)|(rw[Bh.F5 _ _ _ Y];simp;omega)):p:=h
theorem Ag{p:Prop}(h:p:=by simp[results,go_sem,Tryz.results201,r0,r1,r2,r3,r4,r5,r6,r7,r8]):p:=h
theorem zD{p:Prop}(h:p:=by rw[←aj0];show(xsOf F (k*5+1+m)).length=0;rw[e];rfl):p:=h
theorem zJ{p:Prop}(h:p:=by unfold Bm.nw;omega):p:=h
theorem zI{p:Prop}(h:p:=by show i%64≤64;omega):p:=h
theorem Au{p:Prop}(h:p:=by first|exact JY H 0 (vs:=[.int .i64 v0,.int .i64 v1,.int .i64 v2,.int .i64 v3,.int .i64 v4,.int .i64 v5,.int .i64 v6,.int .i64 v7]) O O O O Kz Iw|exact JY H 1 (vs:=[.int .i64 v0,.int .i64 v1,.int .i64 v2,.int .i64 v3,.int .i64 v4,.int .i64 v5,.int .i64 v6,.int .i64 v7]) O O O O Kz Iw):p:=h
theorem zY{p:Prop}(h:p:=by have h:=H.pick 0 O;exact(Heap.drop (E:=blk p3 _ _) H).ents):p:=h
theorem Ad{p:Prop}(h:p:=by simp[results,go_sem,Tryz.results235,r0,r1]):p:=h
theorem zC{p:Prop}(h:p:=by rw[hD.len,hO.dev.dv.len]):p:=h
theorem zM{p:Prop}(h:p:=by show h1.E≤999;omega):p:=h
theorem zH{p:Prop}(h:p:=by rw[hrg1];rfl):p:=h
theorem zS{p:Prop}(h:p:=by simp[UH,ahj]):p:=h
theorem zL{p:Prop}(h:p:=by show h3.E≤999;omega):p:=h
theorem Aj{p:Prop}(h:p:=by first|exact H.BQ [4,0,6,7,2,3] rfl rfl|exact H.BQ [4,1,6,7,2,3] rfl rfl):p:=h
section
variable{p r:Prop}
theorem jg(k:r)(h:Zq r→p:=by intro Zz;unfold wpList;rw[hy,if_pos hw];refine .inl ?_;unfold Oper.wp;exact Zz.1):p:=h ⟨k⟩
theorem nN(k:r)(h:Zq r→p:=by intro Zz;unfold wpListIn;rw[hy,if_pos hw];exact Zz.1):p:=h ⟨k⟩
theorem sN(k:r)(h:Zq r→p:=by intro Zz;simp only[Instr.buildSlice,Sem.run_bind,run_underlying ht,Result.andThen_ok,hs1,hbig,if_false,hne,hz1,Sem.run_pure];exact Zz.1):p:=h ⟨k⟩
theorem iD(k:r)(h:Zq r→p:=by intro Zz;refine BM (CG (v:= .pointer _) O O ?_);exact Zz.1):p:=h ⟨k⟩
theorem sQ(k:r)(h:Zq r→p:=by intro Zz;refine Fb O (AO (iD ?_));exact Zz.1):p:=h ⟨k⟩
theorem aN(k:r)(h:Zq r→p:=by intro Zz;refine EC 0 O O O (fun _ hS=>Cc (v:= .pointer _) O) trivial (EC 1 O O O (fun _ hS=>DT O) trivial ?_);exact Zz.1):p:=h ⟨k⟩
theorem iW(k:r)(h:Zq r→p:=by intro Zz;refine EC 4 O O O (fun _ hS=>Cc (v:= .int _ _) O) trivial ?_;exact Zz.1):p:=h ⟨k⟩
theorem ak(k:r)(h:Zq r→p:=by intro Zz;refine AZ (BA trivial ?_);exact Zz.1):p:=h ⟨k⟩
theorem rY(k:r)(h:Zq r→p:=by intro Zz;refine ak ?_;refine BD 8 O ?_;exact Zz.1):p:=h ⟨k⟩
theorem uD(k:r)(h:Zq r→p:=by intro Zz;refine ak ?_;refine EC 15 O O O (fun _ hS=>CQ (v:= .int _ _) O O) trivial (BD 16 O (aos (q:=n) H 1 O O O O O (O) ?_));exact Zz.1):p:=h ⟨k⟩
theorem uw(k:r)(h:Zq r→p:=by intro Zz;refine ak ?_;refine EC 18 O O O (fun _ hS=>CQ (v:= .int _ _) O O) trivial (BD 19 O (aos (q:=s) H 2 O O O O O (O) ?_));exact Zz.1):p:=h ⟨k⟩
theorem lY(k:r)(h:Zq r→p:=by intro Zz;refine ak ?_;refine BD 3 O ?_;exact Zz.1):p:=h ⟨k⟩
theorem ay(k:r)(h:Zq r→p:=by intro Zz;refine BZ (fun _ H=>Cc (v:= .pointer _) O) (BZ (fun _ H=>DT O) ?_);exact Zz.1):p:=h ⟨k⟩
theorem bK(k:r)(h:Zq r→p:=by intro Zz;refine BZ (fun _ H=>Cc (v:= .int _ _) O) ?_;exact Zz.1):p:=h ⟨k⟩
theorem jw(k:r)(h:Zq r→p:=by intro Zz;refine DF (Bg O (BU O ?_));exact Zz.1):p:=h ⟨k⟩
theorem uV(k:r)(h:Zq r→p:=by intro Zz;refine AP (BH O (AO ?_));exact Zz.1):p:=h ⟨k⟩
theorem dL(k:r)(h:Zq r→p:=by intro Zz;refine AP (Bg O (BU O ?_));exact Zz.1):p:=h ⟨k⟩
theorem jW(k:r)(h:Zq r→p:=by intro Zz;refine A8 (dL ?_);exact Zz.1):p:=h ⟨k⟩
theorem jR(k:r)(h:Zq r→p:=by intro Zz;refine AV (CQ (v:= .bool _) O O) ?_;exact Zz.1):p:=h ⟨k⟩
theorem eG(k:r)(h:Zq r→p:=by intro Zz;refine DC O (Eo (CY (CY (Fv (AX ?_)))));exact Zz.1):p:=h ⟨k⟩
theorem wR(k:r)(h:Zq r→p:=by intro Zz;refine AP (ad6 M H 0 (hlm) O O O (jR ?_));refine AO (A8 (eG ?_));exact Zz.1):p:=h ⟨k⟩
theorem dG(k:r)(h:Zq r→p:=by intro Zz;refine CG (v:= .bool _) O O ?_;exact Zz.1):p:=h ⟨k⟩
theorem iP(k:r)(h:Zq r→p:=by intro Zz;refine BH O (AO (BM (dG ?_)));exact Zz.1):p:=h ⟨k⟩
theorem bJ(k:r)(h:Zq r→p:=by intro Zz;refine CV O O (CV O O (AY O (AY O ?_)));exact Zz.1):p:=h ⟨k⟩
theorem mF(k:r)(h:Zq r→p:=by intro Zz;refine AV (GI O O Y) (BX O ?_);exact Zz.1):p:=h ⟨k⟩
theorem sJ(k:r)(h:Zq r→p:=by intro Zz;refine DF (AQ O (AQ O (mF ?_)));exact Zz.1):p:=h ⟨k⟩
theorem oV(k:r)(h:Zq r→p:=by intro Zz;refine AO (EF O (AP ?_));exact Zz.1):p:=h ⟨k⟩
theorem bV(k:r)(h:Zq r→p:=by intro Zz;refine AY O (AO (A8 (AP (AQ O (AV (Di O O Y) (BX O ?_))))));exact Zz.1):p:=h ⟨k⟩
theorem dK(k:r)(h:Zq r→p:=by intro Zz;refine AO (DC O (Bj (AX ?_)));exact Zz.1):p:=h ⟨k⟩
theorem gQ(k:r)(h:Zq r→p:=by intro Zz;refine DW O O (dK ?_);exact Zz.1):p:=h ⟨k⟩
theorem iQ(k:r)(h:Zq r→p:=by intro Zz;refine A8 (AP (AQ O ?_));exact Zz.1):p:=h ⟨k⟩
theorem dw(k:r)(h:Zq r→p:=by intro Zz;refine AV (Dq O O (wI Y)) ?_;exact Zz.1):p:=h ⟨k⟩
theorem mZ(k:r)(h:Zq r→p:=by intro Zz;refine AQ O (dw ?_);exact Zz.1):p:=h ⟨k⟩
theorem fC(k:r)(h:Zq r→p:=by intro Zz;refine AV (DI O O Y) (AO (EF O (Bj (AX (A8 (E8 ?_))))));exact Zz.1):p:=h ⟨k⟩
theorem eH(k:r)(h:Zq r→p:=by intro Zz;refine AP (Bg O (AQ O ?_));exact Zz.1):p:=h ⟨k⟩
theorem jY(k:r)(h:Zq r→p:=by intro Zz;refine DC O (Bj (CS (AX ?_)));exact Zz.1):p:=h ⟨k⟩
theorem dN(k:r)(h:Zq r→p:=by intro Zz;refine DF (AQ O (dw ?_));refine AY O (AZ (Dk ?_));exact Zz.1):p:=h ⟨k⟩
theorem xJ(k:r)(h:Zq r→p:=by intro Zz;refine AO (jY ?_);refine dN ?_;exact Zz.1):p:=h ⟨k⟩
theorem og(k:r)(h:Zq r→p:=by intro Zz;refine AV (Di O O Y) (AO (eG ?_));exact Zz.1):p:=h ⟨k⟩
theorem aF(k:r)(h:Zq r→p:=by intro Zz;refine Dt O (CV O O (AV (CQ (v:= .bool _) O O) (AY O (BH O ?_))));exact Zz.1):p:=h ⟨k⟩
theorem aK(k:r)(h:Zq r→p:=by intro Zz;refine CG (v:= .int _ _) O O ?_;exact Zz.1):p:=h ⟨k⟩
theorem eu(k:r)(h:Zq r→p:=by intro Zz;refine AY O (AO (BM (aK ?_)));exact Zz.1):p:=h ⟨k⟩
theorem uP(k:r)(h:Zq r→p:=by intro Zz;refine AP (eu ?_);exact Zz.1):p:=h ⟨k⟩
theorem kG(k:r)(h:Zq r→p:=by intro Zz;refine AY O (AY O (AO ?_));exact Zz.1):p:=h ⟨k⟩
theorem oM(k:r)(h:Zq r→p:=by intro Zz;refine AP (AY O (AO ?_));exact Zz.1):p:=h ⟨k⟩
theorem aX(k:r)(h:Zq r→p:=by intro Zz;refine Fh (v:= .int _ _) (v2:= .int _ _) O O O ?_;exact Zz.1):p:=h ⟨k⟩
theorem nC(k:r)(h:Zq r→p:=by intro Zz;refine kG ?_;refine BM (Dx (aX ?_));exact Zz.1):p:=h ⟨k⟩
theorem mD(k:r)(h:Zq r→p:=by intro Zz;refine AV (Gu O O (wI Y)) ?_;exact Zz.1):p:=h ⟨k⟩
theorem nS(k:r)(h:Zq r→p:=by intro Zz;refine kG ?_;refine BM (aX ?_);exact Zz.1):p:=h ⟨k⟩
theorem jO(k:r)(h:Zq r→p:=by intro Zz;refine Bo 25 O (Yq O) (Df 38 O O (Df 38 O O (Df 38 O O (Df 38 O O (Df 38 O O (Df 38 O O (Df 38 O O (Df 38 O O (Df 38 O O (Je 47 O (Je 47 O (Je 47 O (Df 38 O O ?_)))))))))))));refine Bo 25 O (Iz (v:= .bool _) O O) (EZ O O ?_);exact Zz.1):p:=h ⟨k⟩
theorem aZ(k:r)(h:Zq r→p:=by intro Zz;refine Bo 25 O (Gm O) (Bo 25 O (Di O O Y) (Bo 25 O (Yq O) (Bo 28 O (Gm O) (Bo 28 O (Ls O) (Bo 28 O (DT O) (Bo 28 O (Cm O KE) (Bo 28 O (DR (HR.same H.only) 0 O O O Nw) (Bo 28 O (Gm O) (Bo 28 O (Rx (HR.same H.only) 1 O O O (gd) (hgk) underlying127 (IY JH) O) (Bo 28 O (Di O O Y) (Bo 25 O (LV (v:= .bool _) O O) (Bo 25 O (Yq O) (Bo 38 O (Gm O) ?_)))))))))))));refine Bo 38 O (Ls O) (Bo 38 O (DT O) (Bo 38 O (Cm O KE) (Bo 38 O (DR (HR.same H.only) 0 O O O Nw) (Bo 38 O (Gm O) (Bo 38 O (Rx (HR.same H.only) 1 O O O (gd) (hgk) underlying127 (IY JH) O) ?_)))));exact Zz.1):p:=h ⟨k⟩
theorem wH(k:r)(h:Zq r→p:=by intro Zz;refine sJ ?_;refine aZ ?_;refine Bo 38 O (D7 O O Y) (Bo 38 O (Yq O) (Bo 47 O (Gm O) (Bo 47 O (Gm O) ?_)));exact Zz.1):p:=h ⟨k⟩
theorem xq(k:r)(h:Zq r→p:=by intro Zz;refine Df 7 O O (Df 7 O O (Df 7 O O (Df 7 O O (Df 7 O O ?_))));exact Zz.1):p:=h ⟨k⟩
theorem tK(k:r)(h:Zq r→p:=by intro Zz;refine Ik (u:= .bool _) H 0 O O O O O O sz4 ?_;exact Zz.1):p:=h ⟨k⟩
theorem mX(k:r)(h:Zq r→p:=by intro Zz;refine AP (BH O (AO (BM (Dx (dG ?_)))));exact Zz.1):p:=h ⟨k⟩
theorem iE(k:r)(h:Zq r→p:=by intro Zz;refine dL ?_;refine BI O Wh (BG H 0 O O O Zi (BX O (Bo 7 O (Ls O) (Bo 7 O (DT O) (Bo 7 O (Cm O ad5) (Bo 7 O (DR H 0 O O O Zi) (Bo 7 O (Yq O) ?_)))))));exact Zz.1):p:=h ⟨k⟩
theorem vg(k:r)(h:Zq r→p:=by intro Zz;refine BO 37 func222 O (uV ?_);refine A8 (iE ?_);refine Bo 12 O (Ls O) (Bo 12 O (DT O) (Bo 12 O (Cm O VB) (Bo 12 O (DR H 0 O O O FM) ?_)));exact Zz.1):p:=h ⟨k⟩
theorem fV(k:r)(h:Zq r→p:=by intro Zz;refine BG H 0 O O O FM ?_;exact Zz.1):p:=h ⟨k⟩
theorem dI(k:r)(h:Zq r→p:=by intro Zz;refine Ik (u:= .int _ _) H 0 O O O O O O Ji ?_;exact Zz.1):p:=h ⟨k⟩
theorem uj(k:r)(h:Zq r→p:=by intro Zz;refine AO (dL ?_);exact Zz.1):p:=h ⟨k⟩
theorem fF(k:r)(h:Zq r→p:=by intro Zz;refine BM (CG (v:= .slice _ _ _) O O ?_);exact Zz.1):p:=h ⟨k⟩
theorem rW(k:r)(h:Zq r→p:=by intro Zz;refine EM O (AO (fF ?_));exact Zz.1):p:=h ⟨k⟩
theorem iZ(k:r)(h:Zq r→p:=by intro Zz;refine AY O (AO (A8 (E8 (AP (AQ O ?_)))));exact Zz.1):p:=h ⟨k⟩
theorem gZ(k:r)(h:Zq r→p:=by intro Zz;refine AV (Di O O Y) (BX O (Bo 10 O (Gm O) (Bo 10 O (Ls O) (Bo 10 O (DT O) (Bo 10 O (Cm O Ox) (Bo 10 O (DR H 0 O O O O4) (Bo 10 O (Gw O underlying55) ?_)))))));exact Zz.1):p:=h ⟨k⟩
theorem xC(k:r)(h:Zq r→p:=by intro Zz;refine BO 37 func161 O (AP (iZ ?_));refine gZ ?_;refine Bo 10 O (Fz O O Y) (DW O O (BH O (AO (DC O (AP (Bg O ?_))))));exact Zz.1):p:=h ⟨k⟩
theorem jT(k:r)(h:Zq r→p:=by intro Zz;refine BH O (AO (EF O (AP (AY O (AO (BM (F8 (Dx (aK ?_)))))))));exact Zz.1):p:=h ⟨k⟩
theorem xk(k:r)(h:Zq r→p:=by intro Zz;refine s_call O (VU g d _ H0.ents hs) (aa0 O) ?_;exact Zz.1):p:=h ⟨k⟩
theorem uO(k:r)(h:Zq r→p:=by intro Zz;refine BH O (AO (jY ?_));exact Zz.1):p:=h ⟨k⟩
theorem nX(k:r)(h:Zq r→p:=by intro Zz;refine Bo 7 O (Gm O) (Bo 7 O (Ls O) (Bo 7 O (DT O) ?_));exact Zz.1):p:=h ⟨k⟩
theorem um(k:r)(h:Zq r→p:=by intro Zz;refine BO 23 func133 O (AP (bV ?_));refine nX ?_;refine Bo 7 O (Cm O Ox) (Bo 7 O (DR H 0 O O O O4) (Bo 7 O (Gw O underlying55) ?_));exact Zz.1):p:=h ⟨k⟩
theorem lV(k:r)(h:Zq r→p:=by intro Zz;refine AY O (AO (iQ ?_));exact Zz.1):p:=h ⟨k⟩
theorem qG(k:r)(h:Zq r→p:=by intro Zz;refine lV ?_;refine AV (DI O O Y) (BX O ?_);exact Zz.1):p:=h ⟨k⟩
theorem gG(k:r)(h:Zq r→p:=by intro Zz;refine AO (EF O (AP (AY O (AO (BM (Dx (aK ?_)))))));exact Zz.1):p:=h ⟨k⟩
theorem dZ(k:r)(h:Zq r→p:=by intro Zz;refine AV (Di O O Y) (BX O (Bo 8 O (Gm O) (Bo 8 O (Ls O) (Bo 8 O (DT O) (Bo 8 O (Cm O Qp) (Bo 8 O (DR H 0 O O O RJ) (Bo 8 O (Gw O underlying155) ?_)))))));exact Zz.1):p:=h ⟨k⟩
theorem qV(k:r)(h:Zq r→p:=by intro Zz;refine BO 49 func226 O (AP (iZ ?_));refine dZ ?_;refine Bo 8 O (Fz O O Y) (DW O O (BH O (AO (DC O (AP (Bg O ?_))))));exact Zz.1):p:=h ⟨k⟩
theorem jf(k:r)(h:Zq r→p:=by intro Zz;refine AV (H8 O O O Y underlying155 sz4) ?_;exact Zz.1):p:=h ⟨k⟩
theorem uX(k:r)(h:Zq r→p:=by intro Zz;refine AV (Ea O) (uO ?_);refine jW ?_;refine BI O Qp (BG H 0 O O O RJ (AQ O (jf ?_)));refine AV (Td H 4 O O Ar Zi) ?_;exact Zz.1):p:=h ⟨k⟩
theorem wo(k:r)(h:Zq r→p:=by intro Zz;refine BI O Yj (BG H 0 O O O RJ (AQ O (jf ?_)));refine ahs (u:= .bool _) H 5 O O O O O Y (fun _=>rfl) sz4 ?_;exact Zz.1):p:=h ⟨k⟩
theorem dW(k:r)(h:Zq r→p:=by intro Zz;refine BZ (fun _ H=>Cc (v:= .pointer _) O) ?_;exact Zz.1):p:=h ⟨k⟩
theorem uH(k:r)(h:Zq r→p:=by intro Zz;refine BZ (fun _ H=>DR H 0 O O O O4) (bK ?_);exact Zz.1):p:=h ⟨k⟩
theorem pz(k:r)(h:Zq r→p:=by intro Zz;refine Df 8 O O (Df 8 O O (Df 8 O O (Df 8 O O (Df 8 O O (Df 8 O O (Df 8 O O ?_))))));exact Zz.1):p:=h ⟨k⟩
theorem xH(k:r)(h:Zq r→p:=by intro Zz;refine AQ O (AO (E8 ?_));exact Zz.1):p:=h ⟨k⟩
theorem aB(k:r)(h:Zq r→p:=by intro Zz;refine AP (AV (DI O O Y) (AO (A8 (EF O (Bj (AX (A8 (E8 (AP ?_)))))))));exact Zz.1):p:=h ⟨k⟩
theorem nR(k:r)(h:Zq r→p:=by intro Zz;refine aB ?_;refine AQ O (AY O ?_);exact Zz.1):p:=h ⟨k⟩
theorem fA(k:r)(h:Zq r→p:=by intro Zz;refine BZ (fun _ H=>Cc (v:= .slice _ _ _) O) ?_;exact Zz.1):p:=h ⟨k⟩
theorem jv(k:r)(h:Zq r→p:=by intro Zz;refine k_q mixed Aw H (fA ?_);refine bK ?_;refine BZ (fun _ H=>MH O O O Y underlying55 MB) (BZ (fun _ H=>Oe H O cx J Gh) (fA ?_));refine bK ?_;refine BZ (fun _ H=>MH O O O Y underlying55 MB) (BZ (fun _ H=>Oe H O cy J Gh) ?_);exact Zz.1):p:=h ⟨k⟩
theorem aS(k:r)(h:Zq r→p:=by intro Zz;refine CS (AX (DF (AV (Dq O O (wI Y)) (AQ O (AZ (Dk ?_))))));exact Zz.1):p:=h ⟨k⟩
theorem o8(k:r)(h:Zq r→p:=by intro Zz;refine DC O (Bj (aS ?_));exact Zz.1):p:=h ⟨k⟩
theorem kL(k:r)(h:Zq r→p:=by intro Zz;refine BM (F8 (Dx (Dx (F8 (Dx ?_)))));exact Zz.1):p:=h ⟨k⟩
theorem aU(k:r)(h:Zq r→p:=by intro Zz;refine AP (AV (Di O O Y) (AO (A8 (DC O (Eo (CY (CY (Fv ?_))))))));exact Zz.1):p:=h ⟨k⟩
theorem oh(k:r)(h:Zq r→p:=by intro Zz;refine aU ?_;refine AX (AP ?_);exact Zz.1):p:=h ⟨k⟩
theorem aY(k:r)(h:Zq r→p:=by intro Zz;refine s_call O (MI _ _ _ ws _ (fun _=>⟨_,_,rfl,J,(HR.same H.only).MP 0 O⟩) Y Y) (Vr O) ?_;exact Zz.1):p:=h ⟨k⟩
theorem mP(k:r)(h:Zq r→p:=by intro Zz;refine AZ (BA H.only ?_);exact Zz.1):p:=h ⟨k⟩
theorem bG(k:r)(h:Zq r→p:=by intro Zz;refine Jz (Value.int .u64) 0 (m:=(8*m)) H O O O Y Y Y underlying55 GH O ?_;exact Zz.1):p:=h ⟨k⟩
theorem aG(k:r)(h:Zq r→p:=by intro Zz;refine Jz Value.bool false (m:=m) H O O O Y Y Y underlying155 Nb O ?_;exact Zz.1):p:=h ⟨k⟩
theorem oL(k:r)(h:Zq r→p:=by intro Zz;refine CB O (aG ?_);exact Zz.1):p:=h ⟨k⟩
theorem rH(k:r)(h:Zq r→p:=by intro Zz;refine mP ?_;refine BD 9 O (aG ?_);exact Zz.1):p:=h ⟨k⟩
theorem aC(k:r)(h:Zq r→p:=by intro Zz;refine AZ (BA H.only (CZ 10 O O O (fun _ hS=>FI (D6 _ _ _ _ _ _ _ _ _ _ _ _ _ _ _) O) H.only (BD 11 O ?_)));exact Zz.1):p:=h ⟨k⟩
theorem aT(k:r)(h:Zq r→p:=by intro Zz;refine BA H.only (CZ 12 O O O (fun _ hS=>DK (v:= .pointer _) O) H.only (CU ?_));exact Zz.1):p:=h ⟨k⟩
theorem qO(k:r)(h:Zq r→p:=by intro Zz;refine AZ (aT ?_);exact Zz.1):p:=h ⟨k⟩
theorem rE(k:r)(h:Zq r→p:=by intro Zz;refine mP ?_;refine BD 7 O (aG ?_);exact Zz.1):p:=h ⟨k⟩
theorem qY(k:r)(h:Zq r→p:=by intro Zz;refine mP ?_;refine BD 5 O (bG ?_);exact Zz.1):p:=h ⟨k⟩
theorem qU(k:r)(h:Zq r→p:=by intro Zz;refine mP ?_;refine BD 2 O (aY ?_);exact Zz.1):p:=h ⟨k⟩
theorem xK(k:r)(h:Zq r→p:=by intro Zz;refine AY O (AO (AP (AQ O ?_)));exact Zz.1):p:=h ⟨k⟩
theorem oG(k:r)(h:Zq r→p:=by intro Zz;refine AY O (BH O (AO ?_));exact Zz.1):p:=h ⟨k⟩
theorem xG(k:r)(h:Zq r→p:=by intro Zz;refine aB ?_;refine AQ O (jf ?_);refine AV (Td (HR.same H.only) 4 O O Ar Zi) (oG ?_);refine AP (BX O ?_);exact Zz.1):p:=h ⟨k⟩
theorem jo(k:r)(h:Zq r→p:=by intro Zz;refine RN (enc:=(Value.int .i64)) H 0 O O O O O O O Y underlying22 JH O ?_;exact Zz.1):p:=h ⟨k⟩
theorem eU(k:r)(h:Zq r→p:=by intro Zz;refine AV (Ea O) (dK ?_);exact Zz.1):p:=h ⟨k⟩
theorem lZ(k:r)(h:Zq r→p:=by intro Zz;refine dW ?_;refine ay ?_;refine BZ (fun _ H=>Cm O aeB) (BZ (fun _ H=>DR H 0 O O O O4) (bK ?_));refine LH O O (fun _ H=>WG g.bl g.cl k _ _ _ Y) (ab2 O) (dW ?_);refine ay ?_;exact Zz.1):p:=h ⟨k⟩
theorem lH(k:r)(h:Zq r→p:=by intro Zz;refine Df 21 O O (Df 21 O O (Df 21 O O (Df 21 O O (Df 21 O O (Df 21 O O (EZ O O (gG ?_)))))));exact Zz.1):p:=h ⟨k⟩
theorem eX(k:r)(h:Zq r→p:=by intro Zz;refine bV ?_;refine Bo 11 O (Gm O) (Bo 11 O (Di O O Y) (DW O O (BX O (Bo 15 O (Gm O) (Bo 15 O (Ls O) (s_call (ET 15 Aw O) (hL _ H.ents) (Qq O) ?_))))));exact Zz.1):p:=h ⟨k⟩
theorem ku(k:r)(h:Zq r→p:=by intro Zz;refine Bo 15 O (Jy O O Y) (DW O O (BX O (Bo 21 O (Gm O) (Bo 21 O (Ls O) (s_call (ET 21 Aw O) (hL _ H.ents) (Qq O) ?_)))));exact Zz.1):p:=h ⟨k⟩
theorem rP(k:r)(h:Zq r→p:=by intro Zz;refine iQ ?_;refine AQ O (mZ ?_);refine mD ?_;refine AV (SI O O Y (wI Y)) ?_;exact Zz.1):p:=h ⟨k⟩
theorem ng(k:r)(h:Zq r→p:=by intro Zz;refine EF O (Bj (AX (A8 (E8 ?_))));exact Zz.1):p:=h ⟨k⟩
theorem aj(k:r)(h:Zq r→p:=by intro Zz;refine AP (AQ O (AV (Dc O O Y) (AO (DC O (Bj ?_)))));exact Zz.1):p:=h ⟨k⟩
theorem nY(k:r)(h:Zq r→p:=by intro Zz;refine CS (AX (dN ?_));exact Zz.1):p:=h ⟨k⟩
theorem uZ(k:r)(h:Zq r→p:=by intro Zz;refine AY O (AO (aj ?_));refine nY ?_;exact Zz.1):p:=h ⟨k⟩
theorem lJ(k:r)(h:Zq r→p:=by intro Zz;refine AP (AQ O (AV (Jr O O Y) (AO (EF O (AP (AQ O (AY O (AO ?_))))))));exact Zz.1):p:=h ⟨k⟩
theorem sO(k:r)(h:Zq r→p:=by intro Zz;refine lJ ?_;refine kL ?_;refine aK ?_;exact Zz.1):p:=h ⟨k⟩
theorem kR(k:r)(h:Zq r→p:=by intro Zz;refine AV (H8 O O O Y underlying22 Ji) (AV (Td H 0 O O Ar FM) (kG ?_));exact Zz.1):p:=h ⟨k⟩
theorem fD(k:r)(h:Zq r→p:=by intro Zz;refine AP (AQ O (Dz O (Eb O underlying39 (AV (Fz O O Y) (dK ?_)))));refine AP (Dz O (AQ O (AV (MH O O O Y underlying39 sz5) (AV (Oe H O hcell J ag5) (AV (Q8 O O Y) ?_)))));exact Zz.1):p:=h ⟨k⟩
theorem iO(k:r)(h:Zq r→p:=by intro Zz;refine AV (D7 O O Y) (BH O ?_);exact Zz.1):p:=h ⟨k⟩
theorem qM(k:r)(h:Zq r→p:=by intro Zz;refine aB ?_;refine AQ O (kR ?_);refine A8 (fD ?_);refine AO (E8 (AP (iO ?_)));refine AO (EF O (dL ?_));refine BI O Yj (BG (HR.same H.only) 0 O O O RJ (AQ O (jf ?_)));refine AV (Td (HR.same H.only) 5 O O Ar Zi) (AO ?_);exact Zz.1):p:=h ⟨k⟩
theorem pV(k:r)(h:Zq r→p:=by intro Zz;refine EF O (XT 11 mixed Aw H O O (dW ?_));refine fA ?_;refine bK ?_;refine LH O O (fun _ H=>WG bo co i _ _ _ Y) (ab2 O) (dW ?_);refine ay ?_;exact Zz.1):p:=h ⟨k⟩
theorem dX(k:r)(h:Zq r→p:=by intro Zz;refine AV (D5 O O Y) (BH O ?_);exact Zz.1):p:=h ⟨k⟩
theorem iq(k:r)(h:Zq r→p:=by intro Zz;refine dX ?_;refine AO (DC O (AP ?_));exact Zz.1):p:=h ⟨k⟩
theorem uI(k:r)(h:Zq r→p:=by intro Zz;refine(open_any _ _ _ Y Y Y Y).mono ?_;exact Zz.1):p:=h ⟨k⟩
theorem ah(k:r)(h:Zq r→p:=by intro Zz;(try simp only[Act.put,List.getElem_toArray,List.getElem_cons_zero,List.getElem_cons_succ,Bc,Bf,Bd]);exact Zz.1):p:=h ⟨k⟩
theorem aA(k:r)(h:Zq r→p:=by intro Zz;(first|(refine wpAnyH_take (i:=0) (v:=?_) rfl Aw Aw Aw (fun _ _ _ h=>h) (Or.inl ⟨by rfl,?_⟩) Ar ?_;rotate_left;(focus (intro w hSw;(try dsimp only at hSw);go_simp;first|done|with_reducible rfl)))|(refine wpAnyH_take (i:=0) rfl Aw Aw Aw (fun _ _ _ h=>h) (Or.inr ⟨by rfl,rfl⟩) Ar ?_)|fail);refine ah ?_;(first|(refine wpAnyH_take (i:=1) (v:=?_) rfl Aw Aw Aw (fun _ _ _ h=>h) (Or.inl ⟨by rfl,?_⟩) Ar ?_;rotate_left;(focus (intro w hSw;(try dsimp only at hSw);go_simp;first|done|with_reducible rfl)))|(refine wpAnyH_take (i:=1) rfl Aw Aw Aw (fun _ _ _ h=>h) (Or.inr ⟨by rfl,rfl⟩) Ar ?_)|fail);refine ah ?_;(first|(refine wpAnyH_take (i:=2) (v:=?_) rfl Aw Aw Aw (fun _ _ _ h=>h) (Or.inl ⟨by rfl,?_⟩) Ar ?_;rotate_left;(focus (intro w hSw;(try dsimp only at hSw);go_simp;first|done|with_reducible rfl)))|(refine wpAnyH_take (i:=2) rfl Aw Aw Aw (fun _ _ _ h=>h) (Or.inr ⟨by rfl,rfl⟩) Ar ?_)|fail);refine ah ?_;exact Zz.1):p:=h ⟨k⟩
theorem bH(k:r)(h:Zq r→p:=by intro Zz;(first|(refine wpAnyH_take (i:=3) (v:=?_) rfl Aw Aw Aw (fun _ _ _ h=>h) (Or.inl ⟨by rfl,?_⟩) Ar ?_;rotate_left;(focus (intro w hSw;(try dsimp only at hSw);go_simp;first|done|with_reducible rfl)))|(refine wpAnyH_take (i:=3) rfl Aw Aw Aw (fun _ _ _ h=>h) (Or.inr ⟨by rfl,rfl⟩) Ar ?_)|fail);exact Zz.1):p:=h ⟨k⟩
theorem dD(k:r)(h:Zq r→p:=by intro Zz;(first|(refine wpAnyH_take (i:=5) (v:=?_) rfl Aw Aw Aw (fun _ _ _ h=>h) (Or.inl ⟨by rfl,?_⟩) Ar ?_;rotate_left;(focus (intro w hSw;(try dsimp only at hSw);go_simp;first|done|with_reducible rfl)))|(refine wpAnyH_take (i:=5) rfl Aw Aw Aw (fun _ _ _ h=>h) (Or.inr ⟨by rfl,rfl⟩) Ar ?_)|fail);exact Zz.1):p:=h ⟨k⟩
theorem aP(k:r)(h:Zq r→p:=by intro Zz;(first|(refine wpAnyH_take (i:=6) (v:=?_) rfl Aw Aw Aw (fun _ _ _ h=>h) (Or.inl ⟨by rfl,?_⟩) Ar ?_;rotate_left;(focus (intro w hSw;(try dsimp only at hSw);go_simp;first|done|with_reducible rfl)))|(refine wpAnyH_take (i:=6) rfl Aw Aw Aw (fun _ _ _ h=>h) (Or.inr ⟨by rfl,rfl⟩) Ar ?_)|fail);exact Zz.1):p:=h ⟨k⟩
theorem sW(k:r)(h:Zq r→p:=by intro Zz;refine ah ?_;refine aP ?_;refine ah ?_;exact Zz.1):p:=h ⟨k⟩
theorem aJ(k:r)(h:Zq r→p:=by intro Zz;(first|(refine wpAnyH_take (i:=8) (v:=?_) rfl Aw Aw Aw (fun _ _ _ h=>h) (Or.inl ⟨by rfl,?_⟩) Ar ?_;rotate_left;(focus (intro w hSw;(try dsimp only at hSw);go_simp;first|done|with_reducible rfl)))|(refine wpAnyH_take (i:=8) rfl Aw Aw Aw (fun _ _ _ h=>h) (Or.inr ⟨by rfl,rfl⟩) Ar ?_)|fail);exact Zz.1):p:=h ⟨k⟩
theorem jX(k:r)(h:Zq r→p:=by intro Zz;refine bV ?_;refine Bo 10 O (Gm O) (Bo 10 O (Ls O) (s_call (ET 10 Aw O) (hLn H.only) (Qq O) ?_));exact Zz.1):p:=h ⟨k⟩
theorem wW(k:r)(h:Zq r→p:=by intro Zz;refine Bo 10 O (Fz O O Y) (gQ ?_);refine AP (AQ O (Bg O (AQ O ?_)));exact Zz.1):p:=h ⟨k⟩
theorem aV(k:r)(h:Zq r→p:=by intro Zz;refine Dt O (AV (CQ (v:= .agg _) O O) ?_);exact Zz.1):p:=h ⟨k⟩
theorem gX(k:r)(h:Zq r→p:=by intro Zz;refine aV ?_;refine CV O O ?_;exact Zz.1):p:=h ⟨k⟩
theorem iH(k:r)(h:Zq r→p:=by intro Zz;refine En H 0 O O O O O O O DV ?_;exact Zz.1):p:=h ⟨k⟩
theorem vJ(k:r)(h:Zq r→p:=by intro Zz;refine lV ?_;refine AV (Dc O O Y) (BX O (Bo 27 O (J5 H 0 O O O Fa DV) (s_call (ET 27 Aw O) (hS _) (Zc O) ?_)));exact Zz.1):p:=h ⟨k⟩
theorem tJ(k:r)(h:Zq r→p:=by intro Zz;refine Dw H 0 O O O Fa DV ?_;exact Zz.1):p:=h ⟨k⟩
theorem xA(k:r)(h:Zq r→p:=by intro Zz;refine AY O (AO (BM ?_));exact Zz.1):p:=h ⟨k⟩
theorem tY(k:r)(h:Zq r→p:=by intro Zz;unfold Ob.hp Ob.hq Ob.he;rw[hh,if_neg J,if_neg J,if_neg J];exact Zz.1):p:=h ⟨k⟩
theorem rV(k:r)(h:Zq r→p:=by intro Zz;refine oV ?_;refine AV (FI (abb) O) ?_;exact Zz.1):p:=h ⟨k⟩
theorem qL(k:r)(h:Zq r→p:=by intro Zz;refine Df 27 O O (Df 27 O O (Df 27 O O ?_));exact Zz.1):p:=h ⟨k⟩
theorem lW(k:r)(h:Zq r→p:=by intro Zz;refine AP (kG ?_);refine eH ?_;exact Zz.1):p:=h ⟨k⟩
theorem gI(k:r)(h:Zq r→p:=by intro Zz;refine A8 (aj ?_);refine AX ?_;exact Zz.1):p:=h ⟨k⟩
theorem vV(k:r)(h:Zq r→p:=by intro Zz;refine AY O (AO (gI ?_));exact Zz.1):p:=h ⟨k⟩
theorem nP(k:r)(h:Zq r→p:=by intro Zz;refine aF ?_;refine AO (A8 (AP (BX O ?_)));exact Zz.1):p:=h ⟨k⟩
theorem ru(k:r)(h:Zq r→p:=by intro Zz;refine A8 (AP (BX O (eU ?_)));refine AP ?_;exact Zz.1):p:=h ⟨k⟩
theorem jP(k:r)(h:Zq r→p:=by intro Zz;refine Dt O (bJ ?_);exact Zz.1):p:=h ⟨k⟩
theorem pG(k:r)(h:Zq r→p:=by intro Zz;refine jP ?_;refine AO (gI ?_);exact Zz.1):p:=h ⟨k⟩
theorem bP(k:r)(h:Zq r→p:=by intro Zz;refine BX O (Bo 10 O (Gm O) (Bo 10 O (rms O) (Bo 10 O (Gw O underlying128) (Bo 10 O (Fz O O Y) (DW O O (BX O (Bo 16 O (rms O) (Bo 16 O (Gm O) (Bo 16 O (OO (i:=b) O O Y Y underlying128 Eu) (Bo 16 O (Nz O KX) (Bo 16 O (Oe H O c0 J FM) ?_)))))))))));exact Zz.1):p:=h ⟨k⟩
theorem kH(k:r)(h:Zq r→p:=by intro Zz;refine iQ ?_;refine AV (Di O O Y) (bP ?_);refine Bo 16 O (Dc O O Y) (gQ ?_);refine AP (Dz O (AQ O (AV (OO (i:=b) O O Y Y underlying128 Eu) (AV (Nz O aec) (AV (Oe H O c2 J FM) ?_)))));exact Zz.1):p:=h ⟨k⟩
theorem oQ(k:r)(h:Zq r→p:=by intro Zz;refine oG ?_;refine kH ?_;refine bV ?_;refine Bo 31 O (Gm O) (Bo 31 O (rms O) (Bo 31 O (Gw O underlying128) (Bo 31 O (Gm O) (Bo 31 O (Gu O O (wI Y)) ?_))));exact Zz.1):p:=h ⟨k⟩
theorem vT(k:r)(h:Zq r→p:=by intro Zz;refine A8 (oM ?_);refine E8 ?_;exact Zz.1):p:=h ⟨k⟩
theorem wC(k:r)(h:Zq r→p:=by intro Zz;refine iQ ?_;refine AQ O (fC ?_);refine AP (Dz O (AQ O (mZ ?_)));refine AV (OO (i:=(b+i)) O O Y Y underlying128 Eu) ?_;exact Zz.1):p:=h ⟨k⟩
theorem dS(k:r)(h:Zq r→p:=by intro Zz;refine Fh (v:= .int _ _) (v2:= .bool _) O O O ?_;exact Zz.1):p:=h ⟨k⟩
theorem vG(k:r)(h:Zq r→p:=by intro Zz;refine oG ?_;refine BM (dS ?_);exact Zz.1):p:=h ⟨k⟩
theorem qh(k:r)(h:Zq r→p:=by intro Zz;refine oV ?_;refine oG ?_;refine BM (Dx (dS ?_));exact Zz.1):p:=h ⟨k⟩
theorem ou(k:r)(h:Zq r→p:=by intro Zz;refine Dw H 1 O O O Ic He (AQ O ?_);exact Zz.1):p:=h ⟨k⟩
theorem uJ(k:r)(h:Zq r→p:=by intro Zz;refine BH O (AO (AP (ou ?_)));exact Zz.1):p:=h ⟨k⟩
theorem dJ(k:r)(h:Zq r→p:=by intro Zz;refine Bo 25 O (Gm O) (Bo 25 O (rms O) (Bo 25 O (Gw O underlying128) (Bo 25 O (Fz O O Y) (DW O O ?_))));exact Zz.1):p:=h ⟨k⟩
theorem je(k:r)(h:Zq r→p:=by intro Zz;refine bV ?_;refine dJ ?_;refine dK ?_;refine eH ?_;exact Zz.1):p:=h ⟨k⟩
theorem vF(k:r)(h:Zq r→p:=by intro Zz;refine En H 0 O O O O O O O Eu ?_;exact Zz.1):p:=h ⟨k⟩
theorem mV(k:r)(h:Zq r→p:=by intro Zz;refine Dw H 1 O O O Fa DV ?_;exact Zz.1):p:=h ⟨k⟩
theorem cO(k:r)(h:Zq r→p:=by intro Zz;refine aV ?_;refine AV (CQ (v:= .bool _) O O) ?_;exact Zz.1):p:=h ⟨k⟩
theorem dQ(k:r)(h:Zq r→p:=by intro Zz;refine EC 1 O O O (fun _ hS=>Cc (v:= .bool _) O) trivial (EC 2 O O O (fun _ hS=>Cc (v:= .bool _) O) trivial ?_);exact Zz.1):p:=h ⟨k⟩
theorem fU(k:r)(h:Zq r→p:=by intro Zz;refine EC 6 O O (ET 60 Aw O) (fun _ hS=>afG O O Aw Aw Aw Aw underlying3 underlying3 underlying3 hde) trivial (EC 7 O O O (fun _ hS=>Iz (v:= .bool _) O O) trivial ?_);exact Zz.1):p:=h ⟨k⟩
theorem wK(k:r)(h:Zq r→p:=by intro Zz;refine Bo 60 O (J5 H 1 O O O Ir Eu) (ak ?_);refine fU ?_;exact Zz.1):p:=h ⟨k⟩
theorem jc(k:r)(h:Zq r→p:=by intro Zz;refine EC 9 O O O (fun _ hS=>DK (v:= .bool _) O) trivial (CU (AX (BM (Dx (ND O (JB H 3 O O O Fa DV) (Jt (v:= .bool _) O) ?_)))));exact Zz.1):p:=h ⟨k⟩
theorem cZ(k:r)(h:Zq r→p:=by intro Zz;refine AV (OO (i:=b) O O Y Y underlying128 Eu) (AV (ZA (enc:=fun v:Value=>v) (zs:=[.int .i64 h.1,.int .i64 h.2.1,.int .i64 h.2.2]) (hre.later H.only J) O O Ir Eu) ?_);exact Zz.1):p:=h ⟨k⟩
theorem rX(k:r)(h:Zq r→p:=by intro Zz;refine gI ?_;refine AP (Dz O (AQ O (cZ ?_)));exact Zz.1):p:=h ⟨k⟩
theorem wP(k:r)(h:Zq r→p:=by intro Zz;refine nP ?_;refine dK ?_;refine AP (Dz O (AQ O ?_));exact Zz.1):p:=h ⟨k⟩
theorem iK(k:r)(h:Zq r→p:=by intro Zz;refine dQ ?_;refine EC 3 O O (ET 74 Aw O) (fun _ hS=>Cc (v:= .int _ _) O) trivial (EC 5 O O (ET 74 Aw O) (fun _ hS=>Cc (v:= .int _ _) O) trivial ?_);exact Zz.1):p:=h ⟨k⟩
theorem jd(k:r)(h:Zq r→p:=by intro Zz;refine ak ?_;refine BD 4 O ?_;exact Zz.1):p:=h ⟨k⟩
theorem jS(k:r)(h:Zq r→p:=by intro Zz;refine s_call (ET 74 Aw O) (hFi _) (UE O) ?_;exact Zz.1):p:=h ⟨k⟩
theorem oq(k:r)(h:Zq r→p:=by intro Zz;refine CB O (mV ?_);refine jd ?_;refine Bo 74 O (J5 H 3 O O O Ic He) (ak ?_);refine BD 6 O (jS ?_);exact Zz.1):p:=h ⟨k⟩
theorem aW(k:r)(h:Zq r→p:=by intro Zz;refine ak ?_;refine EC 7 O O (ET 74 Aw O) (fun _ hS=>D7 O O Y) trivial (EC 8 O O O (fun _ hS=>Iz (v:= .bool _) O O) trivial (EC 9 O O O (fun _ hS=>Cc (v:= .bool _) O) trivial (EC 10 O O (ET 81 Aw O) (fun _ hS=>Cc (v:= .int _ _) O) trivial ?_)));exact Zz.1):p:=h ⟨k⟩
theorem eP(k:r)(h:Zq r→p:=by intro Zz;refine BD 11 O (Bo 81 O (J5 H 1 O O O Fa DV) (ak ?_));refine BD 12 O (s_call (ET 81 Aw O) (hBl _) (WH O) ?_);exact Zz.1):p:=h ⟨k⟩
theorem lG(k:r)(h:Zq r→p:=by intro Zz;refine EC 13 O O (ET 81 Aw O) (fun _ hS=>D7 O O Y) trivial ?_;exact Zz.1):p:=h ⟨k⟩
theorem dH(k:r)(h:Zq r→p:=by intro Zz;refine EC 14 O O O (fun _ hS=>Iz (v:= .bool _) O O) trivial (BD 15 O (En H 2 O O O O O O O DV ?_));exact Zz.1):p:=h ⟨k⟩
theorem bT(k:r)(h:Zq r→p:=by intro Zz;refine ak ?_;refine EC 16 O O O (fun _ hS=>DK (v:= .bool _) O) trivial (CU (AX (BM (ND O (JB H 2 O O O Fa DV) (Jt (v:= .bool _) O) ?_))));exact Zz.1):p:=h ⟨k⟩
theorem rO(k:r)(h:Zq r→p:=by intro Zz;refine CB O (mV ?_);refine ak ?_;exact Zz.1):p:=h ⟨k⟩
theorem nT(k:r)(h:Zq r→p:=by intro Zz;refine BD 0 O (mV ?_);refine ak ?_;refine BD 15 O (En H 2 O O O O O O O DV ?_);exact Zz.1):p:=h ⟨k⟩
theorem lF(k:r)(h:Zq r→p:=by intro Zz;refine EC 13 O O (ET 81 Aw O) (fun _ hS=>D5 O O Y) trivial ?_;exact Zz.1):p:=h ⟨k⟩
theorem bW(k:r)(h:Zq r→p:=by intro Zz;refine EC 9 O O O (fun _ hS=>Cc (v:= .bool _) O) trivial (ZQ 10 O O (Gj 81 Aw O O) trivial (ZQ 11 O O (Gj 81 Aw O O) trivial (ZQ 12 O O (Gj 81 Aw O O) trivial (ZQ 13 O O (Gj 81 Aw O O) trivial (EC 14 O O O (fun _ hS=>LV (v:= .bool _) O O) trivial ?_)))));exact Zz.1):p:=h ⟨k⟩
theorem jq(k:r)(h:Zq r→p:=by intro Zz;refine EC 7 O O (ET 74 Aw O) (fun _ hS=>D5 O O Y) trivial (EC 8 O O O (fun _ hS=>Iz (v:= .bool _) O O) trivial (bW ?_));exact Zz.1):p:=h ⟨k⟩
theorem ji(k:r)(h:Zq r→p:=by intro Zz;refine iQ ?_;refine Dz O (Eb O underlying128 ?_);exact Zz.1):p:=h ⟨k⟩
theorem iy(k:r)(h:Zq r→p:=by intro Zz;refine Dz O (AQ O (AV (OO (i:=i) O O Y Y underlying128 Eu) (AV (Nz O KX) (AV (Oe H O c0 J FM) ?_))));exact Zz.1):p:=h ⟨k⟩
theorem rJ(k:r)(h:Zq r→p:=by intro Zz;refine ji ?_;refine fC ?_;refine E8 (AP (iy ?_));refine AV (Dc O O Y) (BH O (AO (DC O (A8 (k_q mixed Aw H ?_)))));exact Zz.1):p:=h ⟨k⟩
theorem jh(k:r)(h:Zq r→p:=by intro Zz;refine JZ O (Gj 27 Aw O O) (JZ O (Gj 27 Aw O O) (JZ O (Gj 27 Aw O O) (JZ O (Gj 27 Aw O O) ?_)));exact Zz.1):p:=h ⟨k⟩
theorem sD(k:r)(h:Zq r→p:=by intro Zz;refine BZ (fun _ H=>DK (v:= .bool _) O) (Iy ?_);exact Zz.1):p:=h ⟨k⟩
theorem qI(k:r)(h:Zq r→p:=by intro Zz;refine AX (DC O (DF (Dz O (AQ O (AV (FI (acQ _ _) O) (ado (enc:=(Value.int .i64)) (size:=2) (zs:=[(i:Int),1]) H O O O Y Aw underlying262 aat ?_))))));exact Zz.1):p:=h ⟨k⟩
theorem bI(k:r)(h:Zq r→p:=by intro Zz;refine BZ (fun _ H=>Cc (v:= .slice _ _ _) O) (BZ (fun _ H=>Gw O underlying262) (BZ (fun _ H=>Oz O O Y) (BZ (fun _ H=>Cc (v:= .bool _) O) (Iq 27 O (fun _ H=>Cc (v:= .slice _ _ _) O) (Iq 27 O (fun _ H=>Cc (v:= .slice _ _ _) O) (Iq 27 O (fun _ H=>Gw O underlying262) (Iq 27 O (fun _ H=>Gu O O (wI Y)) (Iq 27 O (fun _ H=>QX (i:=a.length) O O Y Y underlying262 Yk) (Iq 27 O (fun _ H=>Nz O ad3) (Iq 27 O (fun _ H=>afN H 0 O O m1 FM) (Iq 27 O (fun _ H=>Cc (v:= .slice _ _ _) O) (Iq 27 O (fun _ H=>Cc (v:= .slice _ _ _) O) (Iq 27 O (fun _ H=>Gw O underlying262) ?_)))))))))))));refine Iq 27 O (fun _ H=>Gu O O (wI Y)) (Iq 27 O (fun _ H=>QX (i:=a.length) O O Y Y underlying262 Yk) (Iq 27 O (fun _ H=>Nz O Xv) (Iq 27 O (fun _ H=>afN H 0 O O m2 FM) (Iq 27 O (fun _ H=>Dq O O (wI Y)) (Iq 27 O (fun _ H=>Cc (v:= .int _ _) O) ?_)))));exact Zz.1):p:=h ⟨k⟩
theorem wV(k:r)(h:Zq r→p:=by intro Zz;refine AY O (AO (aj ?_));refine aS ?_;exact Zz.1):p:=h ⟨k⟩
theorem gY(k:r)(h:Zq r→p:=by intro Zz;refine Fh (v:= .pointer _) (v2:= .int _ _) O O O ?_;exact Zz.1):p:=h ⟨k⟩
theorem qZ(k:r)(h:Zq r→p:=by intro Zz;refine Fb O (AY O (AO (BM (gY ?_))));exact Zz.1):p:=h ⟨k⟩
theorem vS(k:r)(h:Zq r→p:=by intro Zz;rw[rounds_succ];exact Zz.1):p:=h ⟨k⟩
theorem dF(k:r)(h:Zq r→p:=by intro Zz;(first|(refine wpAnyH_take (i:=0) (v:=?_) rfl Aw Aw Aw (fun _ _ _ h=>h) (Or.inl ⟨by rfl,?_⟩) Ar ?_;rotate_left;(focus (intro w hSw;(try dsimp only at hSw);go_simp;first|done|with_reducible rfl)))|(refine wpAnyH_take (i:=0) rfl Aw Aw Aw (fun _ _ _ h=>h) (Or.inr ⟨by rfl,rfl⟩) Ar ?_)|fail);exact Zz.1):p:=h ⟨k⟩
theorem bY(k:r)(h:Zq r→p:=by intro Zz;refine ah ?_;(first|(refine wpAnyH_take (i:=2) (v:=?_) rfl Aw Aw Aw (fun _ _ _ h=>h) (Or.inl ⟨by rfl,?_⟩) Ar ?_;rotate_left;(focus (intro w hSw;(try dsimp only at hSw);go_simp;first|done|with_reducible rfl)))|(refine wpAnyH_take (i:=2) rfl Aw Aw Aw (fun _ _ _ h=>h) (Or.inr ⟨by rfl,rfl⟩) Ar ?_)|fail);refine ah ?_;refine bH ?_;refine ah ?_;exact Zz.1):p:=h ⟨k⟩
theorem aI(k:r)(h:Zq r→p:=by intro Zz;(first|(refine wpAnyH_take (i:=4) (v:=?_) rfl Aw Aw Aw (fun _ _ _ h=>h) (Or.inl ⟨by rfl,?_⟩) Ar ?_;rotate_left;(focus (intro w hSw;(try dsimp only at hSw);go_simp;first|done|with_reducible rfl)))|(refine wpAnyH_take (i:=4) rfl Aw Aw Aw (fun _ _ _ h=>h) (Or.inr ⟨by rfl,rfl⟩) Ar ?_)|fail);exact Zz.1):p:=h ⟨k⟩
theorem qQ(k:r)(h:Zq r→p:=by intro Zz;refine(Y4 _ _ _ _ _ _ _ _ _ _ hl0 hE0 ⟨hl1.1,g0⟩ ⟨hl2.1,g1⟩ ⟨hl3.1,g2⟩ ⟨hl4.1,g3⟩ ⟨hl9.1,g4⟩ ⟨Vk.1,g5⟩ ⟨UW.1,g6⟩ ⟨hl12.1,g7⟩).mono ?_;exact Zz.1):p:=h ⟨k⟩
theorem fM(k:r)(h:Zq r→p:=by intro Zz;refine ah ?_;(first|(refine wpAnyH_take (i:=7) (v:=?_) rfl Aw Aw Aw (fun _ _ _ h=>h) (Or.inl ⟨by rfl,?_⟩) Ar ?_;rotate_left;(focus (intro w hSw;(try dsimp only at hSw);go_simp;first|done|with_reducible rfl)))|(refine wpAnyH_take (i:=7) rfl Aw Aw Aw (fun _ _ _ h=>h) (Or.inr ⟨by rfl,rfl⟩) Ar ?_)|fail);refine ah ?_;refine aJ ?_;refine ah ?_;exact Zz.1):p:=h ⟨k⟩
theorem sZ(k:r)(h:Zq r→p:=by intro Zz;refine AY O (AO (AP (Bg O ?_)));exact Zz.1):p:=h ⟨k⟩
theorem uG(k:r)(h:Zq r→p:=by intro Zz;refine Dw H 0 O O O Ic He ?_;exact Zz.1):p:=h ⟨k⟩
theorem nM(k:r)(h:Zq r→p:=by intro Zz;refine AV (CQ (v:= .slice _ _ _) O O) (CV O O ?_);exact Zz.1):p:=h ⟨k⟩
theorem vP(k:r)(h:Zq r→p:=by intro Zz;refine BI O Rf (BG (HR.same H.only) 0 O O O WB ?_);exact Zz.1):p:=h ⟨k⟩
theorem nK(k:r)(h:Zq r→p:=by intro Zz;refine AV (OO (i:=0) O O Y Y underlying128 Eu) (AV (ZA (enc:=fun v:Value=>v) (zs:=[.int .i64 h.1,.int .i64 h.2.1,.int .i64 h.2.2]) (hrd.later H.only hqF) O O Ir Eu) ?_);exact Zz.1):p:=h ⟨k⟩
theorem tH(k:r)(h:Zq r→p:=by intro Zz;refine Va H 0 O O O O O O O Eu ?_;exact Zz.1):p:=h ⟨k⟩
theorem kC(k:r)(h:Zq r→p:=by intro Zz;refine AV (D5 O O Y) (dK ?_);exact Zz.1):p:=h ⟨k⟩
theorem bg(k:r)(h:Zq r→p:=by intro Zz;refine CZ 0 O O O (fun _ hS=>Cc (v:= .pointer _) O) trivial (CZ 1 O O O (fun _ hS=>DT O) trivial ?_);exact Zz.1):p:=h ⟨k⟩
theorem lU(k:r)(h:Zq r→p:=by intro Zz;refine CZ 4 O O O (fun _ hS=>Cc (v:= .pointer _) O) trivial (CZ 5 O O O (fun _ hS=>DT O) trivial ?_);exact Zz.1):p:=h ⟨k⟩
theorem mY(k:r)(h:Zq r→p:=by intro Zz;refine CB O (BG H 2 O O O J7 (ak ?_));exact Zz.1):p:=h ⟨k⟩
theorem nD(k:r)(h:Zq r→p:=by intro Zz;refine AV (JY H 2 (vs:=[.int .i64 n]) O O O O Ic He) (ak ?_);exact Zz.1):p:=h ⟨k⟩
theorem kQ(k:r)(h:Zq r→p:=by intro Zz;refine Dw H 0 O O O Ir Eu (ak ?_);exact Zz.1):p:=h ⟨k⟩
theorem dM(k:r)(h:Zq r→p:=by intro Zz;refine ak ?_;refine BD 17 O (s_call O (hSt (H.Bl 1 O)) (JI O) ?_);exact Zz.1):p:=h ⟨k⟩
theorem dn(k:r)(h:Zq r→p:=by intro Zz;refine CZ 18 O O O (fun _ hS=>DK (v:= .int _ _) O) trivial ?_;exact Zz.1):p:=h ⟨k⟩
theorem jU(k:r)(h:Zq r→p:=by intro Zz;refine ak ?_;refine dn ?_;refine CU (Dp ?_);exact Zz.1):p:=h ⟨k⟩
theorem kK(k:r)(h:Zq r→p:=by intro Zz;refine aj ?_;refine AX ?_;exact Zz.1):p:=h ⟨k⟩
theorem qB(k:r)(h:Zq r→p:=by intro Zz;refine CZ 4 O O O (fun _ hS=>Cc (v:= .int _ _) O) trivial ?_;exact Zz.1):p:=h ⟨k⟩
theorem wE(k:r)(h:Zq r→p:=by intro Zz;refine ak ?_;refine BD 7 O ?_;exact Zz.1):p:=h ⟨k⟩
theorem uF(k:r)(h:Zq r→p:=by intro Zz;refine CZ 8 O O O (fun _ hS=>QX (i:=b) O O Y Y underlying128 Eu) trivial (BD 9 O (arO (q:=h) H 3 O O O O hbl Eu ?_));exact Zz.1):p:=h ⟨k⟩
theorem kJ(k:r)(h:Zq r→p:=by intro Zz;refine ak ?_;refine CU (Dp ?_);exact Zz.1):p:=h ⟨k⟩
theorem sU(k:r)(h:Zq r→p:=by intro Zz;refine ak ?_;refine BD 9 O ?_;exact Zz.1):p:=h ⟨k⟩
theorem vY(k:r)(h:Zq r→p:=by intro Zz;refine ak ?_;refine BD 12 O (s_call O (hPe (H.Bl 0 O)) (Uz O) ?_);exact Zz.1):p:=h ⟨k⟩
theorem oH(k:r)(h:Zq r→p:=by intro Zz;refine ak ?_;refine EC 13 O O O (fun _ hS=>DK (v:= .int _ _) O) trivial (CU (AX (BM (aK ?_))));exact Zz.1):p:=h ⟨k⟩
theorem fJ(k:r)(h:Zq r→p:=by intro Zz;refine Dt O (AV (CQ (v:= .pointer _) O O) (CV O O (Fb O (AY O ?_))));exact Zz.1):p:=h ⟨k⟩
theorem iG(k:r)(h:Zq r→p:=by intro Zz;refine CZ 5 O O O (fun _ hS=>Cc (v:= .tuple _) O) trivial (CZ 6 O O O (fun _ hS=>CQ (v:= .pointer _) O O) trivial (CZ 7 O O O (fun _ hS=>CQ (v:= .int _ _) O O) trivial (CZ 8 O O O (fun _ hS=>DK (v:= .pointer _) O) trivial (CZ 9 O O O (fun _ hS=>DK (v:= .int _ _) O) trivial ?_))));exact Zz.1):p:=h ⟨k⟩
theorem oW(k:r)(h:Zq r→p:=by intro Zz;refine ak ?_;refine BD 5 O ?_;exact Zz.1):p:=h ⟨k⟩
theorem nO(k:r)(h:Zq r→p:=by intro Zz;refine ado (enc:=(Value.int .i64)) (size:=3) (zs:=[1,k,0]) H O O O Y Aw underlying128 Jf ?_;exact Zz.1):p:=h ⟨k⟩
theorem qN(k:r)(h:Zq r→p:=by intro Zz;refine ak ?_;refine CZ 8 O O O (fun _ hS=>DK (v:= .int _ _) O) trivial (CU (Dp ?_));exact Zz.1):p:=h ⟨k⟩
theorem rF(k:r)(h:Zq r→p:=by intro Zz;refine AP (BH O (AO (AP (AQ O ?_))));exact Zz.1):p:=h ⟨k⟩
theorem uh(k:r)(h:Zq r→p:=by intro Zz;refine EZ O O (iP ?_);exact Zz.1):p:=h ⟨k⟩
theorem rM(k:r)(h:Zq r→p:=by intro Zz;refine BO 15 func264 O (rF ?_);refine mF ?_;refine Bo 7 O (Gm O) (Bo 7 O (DI O O Y) (EZ O O (BX O (Bo 11 O (Gm O) (s_call (ET 11 Aw O) (hC _) (Uy O) ?_)))));exact Zz.1):p:=h ⟨k⟩
theorem gU(k:r)(h:Zq r→p:=by intro Zz;refine Dz O (Eb O underlying22 ?_);exact Zz.1):p:=h ⟨k⟩
theorem sS(k:r)(h:Zq r→p:=by intro Zz;refine A8 (AP (gU ?_));exact Zz.1):p:=h ⟨k⟩
theorem lC(k:r)(h:Zq r→p:=by intro Zz;refine AV (MH (i:=i) O O Y Y underlying22 Ji) ?_;exact Zz.1):p:=h ⟨k⟩
theorem sV(k:r)(h:Zq r→p:=by intro Zz;refine Dz O (AQ O (lC ?_));refine AV (Oe H O hc J FM) ?_;exact Zz.1):p:=h ⟨k⟩
theorem jZ(k:r)(h:Zq r→p:=by intro Zz;refine eH ?_;refine BU O (BI O L8 (AV (Ot (i:=j) O O Y Y underlying312 OE) (AV (DR (HR.same H.only) 0 O O (Jm hj) KQ) ?_)));exact Zz.1):p:=h ⟨k⟩
theorem jV(k:r)(h:Zq r→p:=by intro Zz;refine BI O KD (AV (DR (HR.same H.only) 0 O O (G6 F b) Ky) (AQ O (AQ O (AV (FI (Nh _ _) O) ?_))));exact Zz.1):p:=h ⟨k⟩
theorem nZ(k:r)(h:Zq r→p:=by intro Zz;refine jV ?_;refine AV (Rx (HR.same H.only) 1 O O O (gd) (hg) underlying311 (IY S9) O) ?_;exact Zz.1):p:=h ⟨k⟩
theorem xw(k:r)(h:Zq r→p:=by intro Zz;refine EC 0 O O O (fun _ hS=>Cc (v:= .pointer _) O) trivial ?_;exact Zz.1):p:=h ⟨k⟩
theorem rU(k:r)(h:Zq r→p:=by intro Zz;refine Ym (enc:=(Value.int .i64)) (zs:=[a]) H O O O Y Aw underlying22 JH ?_;exact Zz.1):p:=h ⟨k⟩
theorem nJ(k:r)(h:Zq r→p:=by intro Zz;refine aeW (enc:=(Value.int .i64)) (size:=1) H 0 O O O O (fun _=>rfl) Y Y underlying22 JH O ?_;exact Zz.1):p:=h ⟨k⟩
theorem mW(k:r)(h:Zq r→p:=by intro Zz;refine EC 13 O O O (fun _ hS=>Ot (i:=j) O O Y Y underlying312 OE) trivial (BD 14 O (aeZ H 1 O O O O (Jm hj) (Yg (r:=⟨A2,(F (j*5)).n+1,c2,(F (j*5)).xs++ [a]⟩) hj) O OE ?_));exact Zz.1):p:=h ⟨k⟩
theorem xB(k:r)(h:Zq r→p:=by intro Zz;refine BO 96 func217 O (AP (kG ?_));refine iQ ?_;refine AQ O ?_;exact Zz.1):p:=h ⟨k⟩
theorem rZ(k:r)(h:Zq r→p:=by intro Zz;refine eH ?_;refine BU O (BI O L8 (AV (Ot (i:=k) O O Y Y underlying312 OE) (AV (DR H 2 O O (Jm Jv) KQ) (Eb O underlying22 ?_))));exact Zz.1):p:=h ⟨k⟩
theorem qy(k:r)(h:Zq r→p:=by intro Zz;refine CZ 6 O O O (fun _ hS=>Cc (v:= .int _ _) O) trivial ?_;exact Zz.1):p:=h ⟨k⟩
theorem pO(k:r)(h:Zq r→p:=by intro Zz;refine CB O (AV (DR H 2 O O (G6 F b) Ky) (ak ?_));exact Zz.1):p:=h ⟨k⟩
theorem sK(k:r)(h:Zq r→p:=by intro Zz;refine CB O (Dw H 0 O O O MC KL (ak ?_));exact Zz.1):p:=h ⟨k⟩
theorem gJ(k:r)(h:Zq r→p:=by intro Zz;refine AV (DR H 2 O O (Jm Jv) KQ) (ak ?_);refine CZ 12 O O O (fun _ hS=>Yw (i:=fr) O O Y Y underlying22 Ji) trivial ?_;exact Zz.1):p:=h ⟨k⟩
theorem bM(k:r)(h:Zq r→p:=by intro Zz;refine s_call O (PX _ _ _ ((F (k*5)).xs.drop fr) _ ((FB H 1 O).slo fr Y) hdl Y) (UC O) ?_;exact Zz.1):p:=h ⟨k⟩
theorem bC(k:r)(h:Zq r→p:=by intro Zz;refine BD 14 O (QO (q:=⟨A1,(F (k*5)).n-fr,c1,(F (k*5)).xs.drop fr⟩) H 4 O O O O O (gd) underlying311 ?_);exact Zz.1):p:=h ⟨k⟩
theorem qj(k:r)(h:Zq r→p:=by intro Zz;refine ak ?_;refine bC ?_;exact Zz.1):p:=h ⟨k⟩
theorem wF(k:r)(h:Zq r→p:=by intro Zz;refine lY ?_;refine AV (DR H 3 O O (G6 F b) Ky) (qj ?_);exact Zz.1):p:=h ⟨k⟩
theorem fB(k:r)(h:Zq r→p:=by intro Zz;refine XT 13 mixed Aw H O O (dW ?_);refine bK ?_;refine dW ?_;refine bK ?_;refine BZ (fun _ H=>DT O) (BZ (fun _ H=>Cm O L8) (BZ (fun _ H=>Ot (i:=k) O O Y Y underlying312 OE) (BZ (fun _ H=>DR H 3 O O (Jm Jv) KQ) (bK ?_))));refine BZ (fun _ H=>P6 (j:=fr) O O O Y underlying22 Ji) (BZ (fun _ H=>DT O) (BZ (fun _ H=>Cm O L8) (BZ (fun _ H=>Ot (i:=k) O O Y Y underlying312 OE) (Iy ?_))));exact Zz.1):p:=h ⟨k⟩
theorem iM(k:r)(h:Zq r→p:=by intro Zz;refine ay ?_;refine BZ (fun _ H=>Cm O KD) (BZ (fun _ H=>DR H 3 O O (G6 _ b) Ky) ?_);exact Zz.1):p:=h ⟨k⟩
theorem iL(k:r)(h:Zq r→p:=by intro Zz;refine BZ (fun _ H=>Gw O underlying22) (BZ (fun _ H=>Gu O O (wI Y)) ?_);exact Zz.1):p:=h ⟨k⟩
theorem vW(k:r)(h:Zq r→p:=by intro Zz;refine AP (Dz O (gU ?_));refine mD ?_;exact Zz.1):p:=h ⟨k⟩
theorem jy(k:r)(h:Zq r→p:=by intro Zz;refine ay ?_;refine BZ (fun _ H=>Cm O KD) (BZ (fun _ H=>DR H 2 O O (G6 _ b) Ky) (BZ (fun _ H=>J5 H 0 O O O MC KL) ?_));exact Zz.1):p:=h ⟨k⟩
theorem sG(k:r)(h:Zq r→p:=by intro Zz;refine BO 15 func123 O (rF ?_);refine mF ?_;refine nX ?_;refine Bo 7 O (Cm O XM) (Bo 7 O (DR (HR.same H.only) 0 O O O FM) ?_);exact Zz.1):p:=h ⟨k⟩
theorem jl(k:r)(h:Zq r→p:=by intro Zz;refine BG (HR.same H.only) 0 O O O FM ?_;exact Zz.1):p:=h ⟨k⟩
theorem eY(k:r)(h:Zq r→p:=by intro Zz;refine Bo 8 O (Ls O) (Bo 8 O (DT O) (Bo 8 O (Cm O O9) (Bo 8 O (DR (HR.same H.only) 0 O O O O4) (Bo 8 O (Gm O) (Bo 8 O (SI O O Y (wI Y)) (Bo 8 O (H8 (i:=i/64) O O Y Y underlying55 MB) (Bo 8 O (Td (HR.same H.only) 1 O O (Bm.U6 l _ hnw) Gh) (Bo 8 O (Gm O) (Bo 8 O (Q8 O O Y) (Bo 8 O (adZ O Aw underlying179 (wU Y)) (Hu O (ET 8 Aw O) (al0 (s:=i%64) O O Y zI (fdiv_pow _ _)) (Bo 8 O (apG O O hb) ?_))))))))))));exact Zz.1):p:=h ⟨k⟩
theorem lX(k:r)(h:Zq r→p:=by intro Zz;refine dL ?_;refine BI O O9 (BG H 0 O O O O4 (AQ O (AV (SI O O Y (wI Y)) (AV (H8 (i:=i/64) O O Y Y underlying55 MB) (AV (Td H 1 O O hgz Gh) (AQ O (AV (Q8 O O Y) (AV (adZ O Aw underlying179 (wU Y)) (Hu O O (akS (s:=i%64) O O Y zI hpw) ?_)))))))));exact Zz.1):p:=h ⟨k⟩
theorem wZ(k:r)(h:Zq r→p:=by intro Zz;refine AV (H8 (i:=i/64) O O Y Y underlying55 MB) (ahs (u:= .int _ _) H 1 O O O O O Y (fun _=>rfl) MB ?_);exact Zz.1):p:=h ⟨k⟩
theorem tX(k:r)(h:Zq r→p:=by intro Zz;refine BO 56 func269 O (AP (oG ?_));refine AP (AQ O (AV (Xr (c:=(a:Int)) O O hmax) (lV ?_)));refine Bg O (BU O (BI O XM (jl ?_)));exact Zz.1):p:=h ⟨k⟩
theorem tZ(k:r)(h:Zq r→p:=by intro Zz;refine iQ ?_;refine AV (D7 O O Y) (AO (EF O (Bj (AX (E8 (AP (mZ ?_)))))));refine lV ?_;refine Bg O (BU O (BI O O9 (BG (HR.same H.only) 0 O O O O4 (Eb O underlying55 ?_))));exact Zz.1):p:=h ⟨k⟩
theorem qH(k:r)(h:Zq r→p:=by intro Zz;refine AV (DK (v:= .nilFunc) O) (AO (AP (AV (aiq O) (AV (DK (v:= .func _ _ _) O) (AO (BM (CG (v:= .func _ _ _) O O ?_)))))));exact Zz.1):p:=h ⟨k⟩
theorem qX(k:r)(h:Zq r→p:=by intro Zz;refine AQ O (RN (enc:=(Value.int .i64)) H 1 O O O O O O O Y underlying22 JH O ?_);exact Zz.1):p:=h ⟨k⟩
theorem nH(k:r)(h:Zq r→p:=by intro Zz;refine Ik (u:= .slice _ _ _) H 0 O O O O O O OE ?_;exact Zz.1):p:=h ⟨k⟩
theorem rD(k:r)(h:Zq r→p:=by intro Zz;refine ng ?_;refine dL ?_;refine BI O TL (AV (JY H 0 (vs:=[.int .i64 s.n]) O O O O Ic He) (AQ O (AQ O (AQ O (AV (FI (acd _ _) O) ?_)))));exact Zz.1):p:=h ⟨k⟩
theorem iF(k:r)(h:Zq r→p:=by intro Zz;refine BG (HR.same H.only) 0 O O O Ig ?_;exact Zz.1):p:=h ⟨k⟩
theorem tC(k:r)(h:Zq r→p:=by intro Zz;refine nP ?_;refine eU ?_;refine jW ?_;refine BI O VQ (BG H 2 O O O abo (AQ O (AQ O (s_call O (hT (H.Bl 8 O)) (als O) ?_))));exact Zz.1):p:=h ⟨k⟩
theorem wO(k:r)(h:Zq r→p:=by intro Zz;refine AV (D7 O O Y) (AO (EF O ?_));exact Zz.1):p:=h ⟨k⟩
theorem wY(k:r)(h:Zq r→p:=by intro Zz;refine Bo 28 O (JY H 2 (vs:=[.int .i64 s.n]) O O O O Ic He) ?_;exact Zz.1):p:=h ⟨k⟩
theorem uM(k:r)(h:Zq r→p:=by intro Zz;refine ak ?_;refine BD 10 O (s_call (ET 28 Aw O) (hMo _) (am0 O) ?_);exact Zz.1):p:=h ⟨k⟩
theorem fO(k:r)(h:Zq r→p:=by intro Zz;refine CZ 11 O O (ET 28 Aw O) (fun _ hS=>Jy O O Y) trivial (CZ 12 O O O (fun _ hS=>LV (v:= .bool _) O O) trivial (CZ 13 O O O (fun _ hS=>DK (v:= .bool _) O) trivial (CU (Dp ?_))));exact Zz.1):p:=h ⟨k⟩
theorem uT(k:r)(h:Zq r→p:=by intro Zz;refine CZ 0 O O O (fun _ hS=>Cc (v:= .pointer _) O) (H.BQ [1] O O) (CZ 1 O O O (fun _ hS=>DT O) (H.BQ [1] O O) ?_);exact Zz.1):p:=h ⟨k⟩
theorem uS(k:r)(h:Zq r→p:=by intro Zz;refine CZ 4 O O O (fun _ hS=>Cc (v:= .pointer _) O) (H.BQ [1] O O) (CZ 5 O O O (fun _ hS=>DT O) (H.BQ [1] O O) ?_);exact Zz.1):p:=h ⟨k⟩
theorem uQ(k:r)(h:Zq r→p:=by intro Zz;refine CZ 8 O O O (fun _ hS=>Cc (v:= .pointer _) O) (H.BQ [1] O O) (CZ 9 O O O (fun _ hS=>DT O) (H.BQ [1] O O) ?_);exact Zz.1):p:=h ⟨k⟩
theorem xu(k:r)(h:Zq r→p:=by intro Zz;refine AZ (BA (H.BQ [1] O O) ?_);exact Zz.1):p:=h ⟨k⟩
theorem wS(k:r)(h:Zq r→p:=by intro Zz;refine iQ ?_;refine Bg O (BU O (BI O La (BG H 2 O O O PO ?_)));exact Zz.1):p:=h ⟨k⟩
theorem uo(k:r)(h:Zq r→p:=by intro Zz;refine Bg O (Bg O (BU O ?_));exact Zz.1):p:=h ⟨k⟩
theorem pY(k:r)(h:Zq r→p:=by intro Zz;refine lV ?_;refine AV (D5 O O Y) (BX O (Bo 11 O (Ls O) (Bo 11 O (DT O) (Bo 11 O (Cm O aak) (Bo 11 O (DR H 1 O O O aif) (Bo 11 O (Gm O) ?_))))));exact Zz.1):p:=h ⟨k⟩
theorem sF(k:r)(h:Zq r→p:=by intro Zz;refine AZ (BA (H.BQ [2] O O) ?_);exact Zz.1):p:=h ⟨k⟩
theorem lg(k:r)(h:Zq r→p:=by intro Zz;refine ay ?_;refine BZ (fun _ H=>Cm O Qr) (BZ (fun _ H=>DR H 0 O O O KQ) ?_);exact Zz.1):p:=h ⟨k⟩
theorem qx(k:r)(h:Zq r→p:=by intro Zz;refine eG ?_;refine jW ?_;refine BI O adB (BG (Heap.start (H.Bl 0 O)) 0 O O O aky (AV (aeG (Heap.start (H.Bl 0 O)) 3 O O underlying328) ?_));exact Zz.1):p:=h ⟨k⟩
theorem wB(k:r)(h:Zq r→p:=by intro Zz;refine aB ?_;refine AV (MH O O O Y underlying22 Ji) (AV (Oe H O cx J FM) (AY O (AO (eH ?_))));refine s_call O (hR H) (ap9 O) ?_;exact Zz.1):p:=h ⟨k⟩
theorem ug(k:r)(h:Zq r→p:=by intro Zz;refine BO 13 func286 O (rF ?_);refine jl ?_;refine mF ?_;refine Bo 8 O (Gm O) (Bo 8 O (DR (HR.same H.only) 1 O O O FM) ?_);exact Zz.1):p:=h ⟨k⟩
theorem xI(k:r)(h:Zq r→p:=by intro Zz;refine nR ?_;refine AO (AP (AV (Cc (v:= .func _ _ _) O) (sV ?_)));refine Z5 O O O func286 Aw Aw (hGy H.only) ?_;exact Zz.1):p:=h ⟨k⟩
theorem qg(k:r)(h:Zq r→p:=by intro Zz;refine iQ ?_;refine gU ?_;refine fC ?_;refine AP (Dz O (AQ O (AV (H8 (i:=j) O O Y Y underlying22 Ji) (AV (XJ H 0 O O hv2 FM) (AY O (AO (AP (AV (Cc (v:= .func _ _ _) O) (AQ O (Z5 O O O func286 Aw Aw (hGy (H.drop.ents)) ?_))))))))));exact Zz.1):p:=h ⟨k⟩
theorem xg(k:r)(h:Zq r→p:=by intro Zz;refine CZ 0 O O O (fun _ hS=>Cc (v:= .pointer _) O) trivial ?_;exact Zz.1):p:=h ⟨k⟩
theorem kW(k:r)(h:Zq r→p:=by intro Zz;refine BZ (fun _ H=>Cc (v:= .tuple _) O) (BZ (fun _ H=>CQ (v:= .slice _ _ _) O O) (BZ (fun _ H=>CQ (v:= .bool _) O O) (BZ (fun _ H=>DK (v:= .slice _ _ _) O) (BZ (fun _ H=>DK (v:= .bool _) O) (Iy ?_)))));exact Zz.1):p:=h ⟨k⟩
theorem mO(k:r)(h:Zq r→p:=by intro Zz;refine s_call O (hD1 (Heap.part (A:=[_,_,_]) H)) (acB O) ?_;exact Zz.1):p:=h ⟨k⟩
theorem dV(k:r)(h:Zq r→p:=by intro Zz;refine BD 8 O (QO (q:=⟨A1,(stay fr to xs1).length,c1,stay fr to xs1⟩) H 5 O O O O O (gd) underlying311 ?_);exact Zz.1):p:=h ⟨k⟩
theorem tu(k:r)(h:Zq r→p:=by intro Zz;refine ak ?_;refine CU (aS ?_);exact Zz.1):p:=h ⟨k⟩
theorem vH(k:r)(h:Zq r→p:=by intro Zz;refine AY O (AO (kK ?_));exact Zz.1):p:=h ⟨k⟩
theorem oO(k:r)(h:Zq r→p:=by intro Zz;refine dL ?_;refine BI O Qk (BG H 1 O O O Xt (BU O (BI O La (BG H 2 O O O PO (AQ O ?_)))));exact Zz.1):p:=h ⟨k⟩
theorem xM(k:r)(h:Zq r→p:=by intro Zz;refine BO 57 func260 O (AP (BH O (AY O (AO (oO ?_)))));exact Zz.1):p:=h ⟨k⟩
theorem o7(k:r)(h:Zq r→p:=by intro Zz;refine dL ?_;refine BI O TL (AV (JY H 2 (vs:=[.int .i64 s.n]) O O O O Ic He) (AQ O ?_));exact Zz.1):p:=h ⟨k⟩
theorem nV(k:r)(h:Zq r→p:=by intro Zz;refine Fh (v:= .bool _) (v2:= .int _ _) O O O ?_;exact Zz.1):p:=h ⟨k⟩
theorem jk(k:r)(h:Zq r→p:=by intro Zz;refine BI O KX (fV ?_);refine AV (Dc O O Y) (BX O (Bo 27 O (Ls O) (Bo 27 O (DT O) (Bo 27 O (Cm O Pm) (Bo 27 O (DR H 2 O O O Ig) (Bo 27 O (Gm O) (Bo 27 O (Gm O) (Bo 27 O (Dq O O (wI Y)) (s_call (ET 27 Aw O) (hBt (H.Bl 7 O)) (ap4 O) ?_)))))))));exact Zz.1):p:=h ⟨k⟩
theorem gW(k:r)(h:Zq r→p:=by intro Zz;refine ay ?_;refine BZ (fun _ H=>Cm O LP) (BZ (fun _ H=>DR H 0 O O O KQ) ?_);exact Zz.1):p:=h ⟨k⟩
theorem o9(k:r)(h:Zq r→p:=by intro Zz;refine A8 (A8 (k_q mixed Aw H (gW ?_)));refine BZ (fun _ H=>Gw O underlying22) (ay ?_);refine BZ (fun _ H=>Cm O ah5) (BZ (fun _ H=>DR H 0 O O O FM) ?_);exact Zz.1):p:=h ⟨k⟩
theorem ni(k:r)(h:Zq r→p:=by intro Zz;refine AV (Ea O) (BX O (Bo 38 O (Ls O) (Bo 38 O (DT O) (Bo 38 O (Cm O TU) (Bo 38 O (DR H 1 O O O Ig) (Bo 38 O (Gm O) (s_call (ET 38 Aw O) (hAd (H.Bl 2 O)) (ZO O) ?_)))))));exact Zz.1):p:=h ⟨k⟩
theorem pR(k:r)(h:Zq r→p:=by intro Zz;refine BO 19 func256 O (oM ?_);refine A8 (E8 (dL ?_));refine BI O Ry (iF ?_);refine AQ O ?_;exact Zz.1):p:=h ⟨k⟩
theorem qE(k:r)(h:Zq r→p:=by intro Zz;refine BO 31 func229 O (AP (BH O (AO (jW ?_))));refine BI O XP (BG H 0 O O O PZ (AQ O ?_));exact Zz.1):p:=h ⟨k⟩
theorem fP(k:r)(h:Zq r→p:=by intro Zz;refine AV (Ea O) (BX O (Bo 12 O (Ls O) (Bo 12 O (DT O) (Bo 12 O (Cm O O8) (Bo 12 O (DR H 0 O O O Ig) (Bo 12 O (Gm O) (s_call (ET 12 Aw O) (hAd (H.Bl 2 O)) (ZO O) ?_)))))));exact Zz.1):p:=h ⟨k⟩
theorem uf(k:r)(h:Zq r→p:=by intro Zz;refine Bo 12 O (Ea O) (gQ ?_);refine jW ?_;refine BI O XI (BG H 0 O O O afe (AQ O (s_call O (hPu (H.Bl 1 O)) (apM O) ?_)));exact Zz.1):p:=h ⟨k⟩
theorem qm(k:r)(h:Zq r→p:=by intro Zz;refine aB ?_;refine AV (H8 (i:=i) O O Y Y underlying22 Ji) ?_;exact Zz.1):p:=h ⟨k⟩
theorem fZ(k:r)(h:Zq r→p:=by intro Zz;refine CZ 9 O O O (fun _ hS=>Cc (v:= .tuple _) O) trivial (CZ 10 O O O (fun _ hS=>CQ (v:= .int _ _) O O) trivial ?_);exact Zz.1):p:=h ⟨k⟩
theorem lS(k:r)(h:Zq r→p:=by intro Zz;refine fZ ?_;refine CZ 11 O O O (fun _ hS=>CQ (v:= .bool _) O O) trivial (CZ 12 O O O (fun _ hS=>DK (v:= .int _ _) O) trivial (CZ 13 O O O (fun _ hS=>DK (v:= .bool _) O) trivial (CU (Dp ?_))));exact Zz.1):p:=h ⟨k⟩
theorem fG(k:r)(h:Zq r→p:=by intro Zz;refine k_q mixed Aw H (ay ?_);refine BZ (fun _ H=>Cm O TM) (BZ (fun _ H=>DR (HR.same H.only) 0 O O O FM) (ay ?_));refine BZ (fun _ H=>Cm O Ul) (BZ (fun _ H=>DR (HR.same H.only) 0 O O O PZ) (BZ (fun _ H=>DT O) (BZ (fun _ H=>Cm O Qk) (BZ (fun _ H=>DR (HA.same H.only) 1 O O O Xt) (BZ (fun _ H=>DT O) (BZ (fun _ H=>Cm O La) (BZ (fun _ H=>DR (HA.same H.only) 2 O O O PO) ?_)))))));exact Zz.1):p:=h ⟨k⟩
theorem qp(k:r)(h:Zq r→p:=by intro Zz;refine BX O (BX O (Bo 21 O (Gm O) (Bo 21 O (Gm O) (Bo 21 O (Dq O O (wI Y)) ?_))));exact Zz.1):p:=h ⟨k⟩
theorem vC(k:r)(h:Zq r→p:=by intro Zz;refine A8 (AP (qp ?_));refine Bo 21 O (DI O O Y) (EZ O O (AO (ng ?_)));refine dL ?_;refine BI O aik (BG (HR.same H.only) 0 O O O aaw (AQ O ?_));exact Zz.1):p:=h ⟨k⟩
theorem qC(k:r)(h:Zq r→p:=by intro Zz;refine jw ?_;refine BI O Ul (BG (HR.same H.only) 0 O O O PZ (mZ ?_));refine s_call O ((hNx (r+1) (HA.same H.only).drop.ents)) (akK O) ?_;exact Zz.1):p:=h ⟨k⟩
theorem iI(k:r)(h:Zq r→p:=by intro Zz;refine CZ 9 O O O (fun _ hS=>Cc (v:= .tuple _) O) trivial (CZ 10 O O O (fun _ hS=>CQ (v:= .bool _) O O) trivial (CZ 11 O O O (fun _ hS=>CQ (v:= .int _ _) O O) trivial (CZ 12 O O O (fun _ hS=>DK (v:= .bool _) O) trivial (CZ 13 O O O (fun _ hS=>DK (v:= .int _ _) O) trivial ?_))));exact Zz.1):p:=h ⟨k⟩
theorem pI(k:r)(h:Zq r→p:=by intro Zz;refine oG ?_;refine AP (AV (J5 H 2 O O (by simp[la]) Ti QE) ?_);exact Zz.1):p:=h ⟨k⟩
theorem jQ(k:r)(h:Zq r→p:=by intro Zz;refine En H 0 O O O O O O O GN ?_;exact Zz.1):p:=h ⟨k⟩
theorem sH(k:r)(h:Zq r→p:=by intro Zz;refine AY O (AO (AP (AV (J5 H 2 O O (by simp[lb]) Ti QE) ?_)));exact Zz.1):p:=h ⟨k⟩
theorem lQ(k:r)(h:Zq r→p:=by intro Zz;refine iZ ?_;refine AV (D7 O O Y) (BX O (Bo 24 O (Gm O) (Bo 24 O (Dc O O Y) (Bo 24 O (Yq O) (Bo 27 O (Cm O LX) (Bo 27 O (DR H 1 O O O Gh) (Bo 27 O (Cm O LX) (Bo 27 O (DR H 0 O O O Gh) ?_))))))));exact Zz.1):p:=h ⟨k⟩
theorem iY(k:r)(h:Zq r→p:=by intro Zz;refine ahD O (JB H 2 O O O PD GN) (Jt (v:= .int _ _) O) (Jt (v:= .bool _) O) ?_;exact Zz.1):p:=h ⟨k⟩
theorem wQ(k:r)(h:Zq r→p:=by intro Zz;refine oG ?_;refine BM (F8 (Dx (iY ?_)));exact Zz.1):p:=h ⟨k⟩
theorem pJ(k:r)(h:Zq r→p:=by intro Zz;refine iO ?_;refine oV ?_;exact Zz.1):p:=h ⟨k⟩
theorem oP(k:r)(h:Zq r→p:=by intro Zz;refine iZ ?_;refine AV (D5 O O Y) (BX O (Df 24 O O (Df 24 O O (Df 24 O O (Je 27 O (Je 27 O (Je 27 O (Je 27 O (Je 27 O (Df 24 O O (DW O O (BH O ?_))))))))))));exact Zz.1):p:=h ⟨k⟩
theorem ql(k:r)(h:Zq r→p:=by intro Zz;refine bV ?_;refine Bo 8 O (Gm O) (Bo 8 O (Fz O O Y) (gQ ?_));refine eH ?_;exact Zz.1):p:=h ⟨k⟩
theorem vI(k:r)(h:Zq r→p:=by intro Zz;rw[if_neg Y,if_neg Y];refine BO 27 func109 O (AP ?_);exact Zz.1):p:=h ⟨k⟩
theorem oz(k:r)(h:Zq r→p:=by intro Zz;refine bV ?_;refine Bo 9 O (Gm O) (Bo 9 O (Fz O O Y) (DW O O (BX O (Bo 13 O (Gm O) ?_))));exact Zz.1):p:=h ⟨k⟩
theorem vw(k:r)(h:Zq r→p:=by intro Zz;refine En H 0 O O O O O O O Iw ?_;exact Zz.1):p:=h ⟨k⟩
theorem lM(k:r)(h:Zq r→p:=by intro Zz;refine AV (Uh (i:=k) (v:= .int .u64 (ws.getD k 0)) O O O hlt hz underlying217 MB Gh) (kG ?_);refine iQ ?_;refine AV (Q8 O O Y) ?_;exact Zz.1):p:=h ⟨k⟩
theorem uq(k:r)(h:Zq r→p:=by intro Zz;refine aB ?_;refine AQ O (lM ?_);refine kC ?_;refine eH ?_;refine mZ ?_;refine AQ O (s_call O (hSt _ (H.Bl 2 O)) (JI O) ?_);exact Zz.1):p:=h ⟨k⟩
theorem oI(k:r)(h:Zq r→p:=by intro Zz;refine iQ ?_;refine fC ?_;refine eH ?_;refine mZ ?_;refine AQ O (AV (Ot (i:=8*j) O O Y Y underlying217 MB) (BG H 0 O O hz Gh (s_call O (hSt _ (H.Bl 2 O)) (JI O) ?_)));exact Zz.1):p:=h ⟨k⟩
theorem lT(k:r)(h:Zq r→p:=by intro Zz;refine A8 (A8 (k_q mixed Aw H (ay ?_)));refine BZ (fun _ H=>Cm O Na) (BZ (fun _ H=>DR H 0 O O h0 J7) ?_);exact Zz.1):p:=h ⟨k⟩
theorem bZ(k:r)(h:Zq r→p:=by intro Zz;refine bK ?_;refine LH O O (fun _ H=>aaM g d a _ (H.Bl 1 O)) (SG O) (ay ?_);refine BZ (fun _ H=>Cm O Nk) (BZ (fun _ H=>Nz O LX) (BZ (fun _ H=>DR H 0 O O h1 Gh) (BZ (fun _ H=>YU O O Y) (BZ (fun _ H=>Cc (v:= .bool _) O) (Iq 22 O (fun _ H=>Cc (v:= .pointer _) O) (Iq 22 O (fun _ H=>DT O) (Iq 22 O (fun _ H=>Cm O Na) (Iq 22 O (fun _ H=>DR H 0 O O h0 J7) (Iq 22 O (fun _ H=>Cc (v:= .int _ _) O) (Iq 22 O (fun _ H=>Dq O O (wI Y)) (LH O (ET 22 Aw O) (fun _ H=>aaM g d ((a:Int)+8) _ (H.Bl 1 O)) (SG O) (Iq 22 O (fun _ H=>Cc (v:= .pointer _) O) (Iq 22 O (fun _ H=>DT O) ?_)))))))))))));refine Iq 22 O (fun _ H=>Cm O Nk) (Iq 22 O (fun _ H=>Nz O LX) (Iq 22 O (fun _ H=>DR H 0 O O h1 Gh) ?_));exact Zz.1):p:=h ⟨k⟩
theorem kD(k:r)(h:Zq r→p:=by intro Zz;refine E8 (EO (fun z f W=>∃j:Nat,j≤2∧z=2-j∧(Nv.Ju d m a j).2=0∧f 0=ptr t∧f 5= .int .i64 a∧f 6= .int .i64 ((8*j:Nat):Int)∧Heap w FF [blk t cs 220,grp (Dy g (Nv.Ju d m a j).1)] W) 2 ⟨0,Y,rfl,rfl,rfl,rfl,rfl,H⟩ ?_);exact Zz.1):p:=h ⟨k⟩
theorem gK(k:r)(h:Zq r→p:=by intro Zz;refine AQ O (fC ?_);refine dL ?_;refine BI O Na (BG H 0 O O h0 J7 (AQ O (AQ O (dw ?_))));refine s_call O (hSt _ (H.Bl 1 O)) (JI O) ?_;exact Zz.1):p:=h ⟨k⟩
theorem uK(k:r)(h:Zq r→p:=by intro Zz;refine iQ ?_;refine og ?_;refine dL ?_;refine BI O Na (BG H 0 O O h0 J7 (AQ O (s_call O (hP _ (H.Bl 1 O)) (Uz O) ?_)));exact Zz.1):p:=h ⟨k⟩
theorem mJ(k:r)(h:Zq r→p:=by intro Zz;refine JZ O (Gj 22 Aw O O) (JZ O (Gj 22 Aw O O) (JZ O (Gj 22 Aw O O) ?_));exact Zz.1):p:=h ⟨k⟩
theorem oZ(k:r)(h:Zq r→p:=by intro Zz;refine BO 53 func111 O (oM ?_);refine jW ?_;refine BI O Nk (AV (Nz O LX) (BG H 0 O O O Gh ?_));exact Zz.1):p:=h ⟨k⟩
theorem jm(k:r)(h:Zq r→p:=by intro Zz;refine bg ?_;refine CZ 2 O O O (fun _ hS=>Cm O Nk) trivial (CZ 3 O O O (fun _ hS=>Nz O LX) trivial (CZ 6 O O O (fun _ hS=>Cc (v:= .pointer _) O) trivial (CZ 7 O O O (fun _ hS=>DT O) trivial (CZ 8 O O O (fun _ hS=>Cm O XO) trivial ?_))));exact Zz.1):p:=h ⟨k⟩
theorem fE(k:r)(h:Zq r→p:=by intro Zz;refine ak ?_;refine CZ 5 O O O (fun _ hS=>Dq O O (wU Y)) trivial ?_;exact Zz.1):p:=h ⟨k⟩
theorem kZ(k:r)(h:Zq r→p:=by intro Zz;refine CZ 10 O O O (fun _ hS=>FI (J6 _ _ _ _ _ _ _ _ _) O) trivial (BD 11 O ?_);exact Zz.1):p:=h ⟨k⟩
theorem bQ(k:r)(h:Zq r→p:=by intro Zz;refine CZ 10 O O O (fun _ hS=>FI (J6 _ _ _ _ _ _ _ _ _) O) trivial (BD 12 O (En H 0 O O O O O O O GN ?_));exact Zz.1):p:=h ⟨k⟩
theorem oU(k:r)(h:Zq r→p:=by intro Zz;refine jd ?_;refine BG H 1 O O O Gh (fE ?_);refine bQ ?_;exact Zz.1):p:=h ⟨k⟩
theorem xE(k:r)(h:Zq r→p:=by intro Zz;refine AY O (AO (A8 (eH ?_)));refine s_call O (hWi _ zY) (alN O) ?_;exact Zz.1):p:=h ⟨k⟩
theorem qw(k:r)(h:Zq r→p:=by intro Zz;refine kK ?_;refine A8 (A8 ?_);exact Zz.1):p:=h ⟨k⟩
theorem qF(k:r)(h:Zq r→p:=by intro Zz;refine ak ?_;refine BD 6 O (s_call O (Xh _ (H.Bl 2 O)) (aff O) ?_);exact Zz.1):p:=h ⟨k⟩
theorem iw(k:r)(h:Zq r→p:=by intro Zz;refine ak ?_;refine EC 7 O O O (fun _ hS=>DK (v:= .int _ _) O) trivial (CU (AX ?_));exact Zz.1):p:=h ⟨k⟩
theorem vk(k:r)(h:Zq r→p:=by intro Zz;refine iw ?_;refine kK ?_;refine AP (Bg O (Bg O (Dw H 0 O O O PD GN (AQ O (BU O (BI O Nk (Va H 1 O O O O O O O GN ?_)))))));exact Zz.1):p:=h ⟨k⟩
theorem vU(k:r)(h:Zq r→p:=by intro Zz;refine Dw H 0 O O O OT NW ?_;exact Zz.1):p:=h ⟨k⟩
theorem qP(k:r)(h:Zq r→p:=by intro Zz;refine dW ?_;refine BZ (fun _ H=>Cm O abD) (BZ (fun _ H=>DR H 0 O O O FM) (BZ (fun _ H=>Cm O aeM) (BZ (fun _ H=>DR H 0 O O O FM) ?_)));exact Zz.1):p:=h ⟨k⟩
theorem oC(k:r)(h:Zq r→p:=by intro Zz;refine BZ (fun _ H=>DT O) (BZ (fun _ H=>Nz O aee) (BZ (fun _ H=>ar2 (i:=m) O O Y Y underlying104 Iw) (BZ (fun _ H=>agi (i:=r) O O Y Y underlying103 Ji) ?_)));exact Zz.1):p:=h ⟨k⟩
theorem oK(k:r)(h:Zq r→p:=by intro Zz;refine lV ?_;refine AV (Dc O O Y) (BX O (Bo 14 O (Cm O Z7) (Bo 14 O (DR H 0 O O O FM) (Bo 14 O (FI (YT _) O) (s_call (ET 14 Aw O) (abL B _ Y) (am1 O) ?_)))));exact Zz.1):p:=h ⟨k⟩
theorem dO(k:r)(h:Zq r→p:=by intro Zz;refine ah ?_;(first|(refine wpAnyH_take (i:=9) (v:=?_) rfl Aw Aw Aw (fun _ _ _ h=>h) (Or.inl ⟨by rfl,?_⟩) Ar ?_;rotate_left;(focus (intro w hSw;(try dsimp only at hSw);go_simp;first|done|with_reducible rfl)))|(refine wpAnyH_take (i:=9) rfl Aw Aw Aw (fun _ _ _ h=>h) (Or.inr ⟨by rfl,rfl⟩) Ar ?_)|fail);refine ah ?_;(first|(refine wpAnyH_take (i:=10) (v:=?_) rfl Aw Aw Aw (fun _ _ _ h=>h) (Or.inl ⟨by rfl,?_⟩) Ar ?_;rotate_left;(focus (intro w hSw;(try dsimp only at hSw);go_simp;first|done|with_reducible rfl)))|(refine wpAnyH_take (i:=10) rfl Aw Aw Aw (fun _ _ _ h=>h) (Or.inr ⟨by rfl,rfl⟩) Ar ?_)|fail);refine ah ?_;exact Zz.1):p:=h ⟨k⟩
theorem aQ(k:r)(h:Zq r→p:=by intro Zz;refine ah ?_;refine aI ?_;refine ah ?_;(first|(refine wpAnyH_take (i:=5) (v:=?_) rfl Aw Aw Aw (fun _ _ _ h=>h) (Or.inl ⟨by rfl,?_⟩) Ar ?_;rotate_left;(focus (intro w hSw;(try dsimp only at hSw);go_simp;first|done|with_reducible rfl)))|(refine wpAnyH_take (i:=5) rfl Aw Aw Aw (fun _ _ _ h=>h) (Or.inr ⟨by rfl,rfl⟩) Ar ?_)|fail);refine ah ?_;(first|(refine wpAnyH_take (i:=6) rfl Aw Aw Aw (fun _ _ _ h=>h) (Or.inr ⟨by rfl,rfl⟩) Ar ?_)|(refine wpAnyH_take (i:=6) (v:=?_) rfl Aw Aw Aw (fun _ _ _ h=>h) (Or.inl ⟨by rfl,?_⟩) Ar ?_;rotate_left;(focus (intro w hSw;(try dsimp only at hSw);go_simp;first|done|with_reducible rfl)))|fail);refine ah ?_;(first|(refine wpAnyH_take (i:=7) rfl Aw Aw Aw (fun _ _ _ h=>h) (Or.inr ⟨by rfl,rfl⟩) Ar ?_)|(refine wpAnyH_take (i:=7) (v:=?_) rfl Aw Aw Aw (fun _ _ _ h=>h) (Or.inl ⟨by rfl,?_⟩) Ar ?_;rotate_left;(focus (intro w hSw;(try dsimp only at hSw);go_simp;first|done|with_reducible rfl)))|fail);refine ah ?_;(first|(refine wpAnyH_take (i:=8) rfl Aw Aw Aw (fun _ _ _ h=>h) (Or.inr ⟨by rfl,rfl⟩) Ar ?_)|(refine wpAnyH_take (i:=8) (v:=?_) rfl Aw Aw Aw (fun _ _ _ h=>h) (Or.inl ⟨by rfl,?_⟩) Ar ?_;rotate_left;(focus (intro w hSw;(try dsimp only at hSw);go_simp;first|done|with_reducible rfl)))|fail);refine ah ?_;(first|(refine wpAnyH_take (i:=9) rfl Aw Aw Aw (fun _ _ _ h=>h) (Or.inr ⟨by rfl,rfl⟩) Ar ?_)|(refine wpAnyH_take (i:=9) (v:=?_) rfl Aw Aw Aw (fun _ _ _ h=>h) (Or.inl ⟨by rfl,?_⟩) Ar ?_;rotate_left;(focus (intro w hSw;(try dsimp only at hSw);go_simp;first|done|with_reducible rfl)))|fail);refine ah ?_;(first|(refine wpAnyH_take (i:=10) (v:=?_) rfl Aw Aw Aw (fun _ _ _ h=>h) (Or.inl ⟨by rfl,?_⟩) Ar ?_;rotate_left;(focus (intro w hSw;(try dsimp only at hSw);go_simp;first|done|with_reducible rfl)))|(refine wpAnyH_take (i:=10) rfl Aw Aw Aw (fun _ _ _ h=>h) (Or.inr ⟨by rfl,rfl⟩) Ar ?_)|fail);refine ah ?_;exact Zz.1):p:=h ⟨k⟩
theorem rC(k:r)(h:Zq r→p:=by intro Zz;refine fV ?_;refine ak ?_;refine EC 5 O O O (fun _ hS=>Gu O O (wI Y)) trivial ?_;exact Zz.1):p:=h ⟨k⟩
theorem iC(k:r)(h:Zq r→p:=by intro Zz;refine Eb O underlying128 (fC ?_);refine A8 (A8 (k_q mixed Aw H (fA ?_)));refine bK ?_;refine BZ (fun _ H=>QX (i:=b) O O Y Y underlying128 Eu) (BZ (fun _ H=>agx H 1 O O hh Ir Eu) (fA ?_));refine bK ?_;refine BZ (fun _ H=>QX (i:=b) O O Y Y underlying128 Eu) (BZ (fun _ H=>agx H 2 O O hkk Ir Eu) ?_);exact Zz.1):p:=h ⟨k⟩
theorem vM(k:r)(h:Zq r→p:=by intro Zz;refine ak ?_;refine BD 10 O (s_call O (hSt (H.Bl 0 O)) (JI O) ?_);exact Zz.1):p:=h ⟨k⟩
theorem qJ(k:r)(h:Zq r→p:=by intro Zz;refine ak ?_;refine CZ 11 O O O (fun _ hS=>DK (v:= .int _ _) O) trivial (CU (Dp ?_));exact Zz.1):p:=h ⟨k⟩
theorem vO(k:r)(h:Zq r→p:=by intro Zz;refine AV (CQ (v:= .pointer _) O O) ?_;exact Zz.1):p:=h ⟨k⟩
theorem wu(k:r)(h:Zq r→p:=by intro Zz;refine uj ?_;refine BI O TK (BG (HR.same H.only) 0 O O O Y9 ?_);exact Zz.1):p:=h ⟨k⟩
theorem fK(k:r)(h:Zq r→p:=by intro Zz;refine aN ?_;refine EC 2 O O O (fun _ hS=>Cm O NQ) trivial ?_;exact Zz.1):p:=h ⟨k⟩
theorem kY(k:r)(h:Zq r→p:=by intro Zz;refine NK (enc:=(Value.int .i64)) H 0 O O O O ((hSw (H.BQ [1] O O))) (apa) (fun _=>rfl) Y underlying22 JH O ?_;exact Zz.1):p:=h ⟨k⟩
theorem qW(k:r)(h:Zq r→p:=by intro Zz;refine ak ?_;refine BD 10 O (s_call O (hLi ((HR.same H.only).Bl 3 O)) (aov O) ?_);exact Zz.1):p:=h ⟨k⟩
theorem lN(k:r)(h:Zq r→p:=by intro Zz;refine BD 11 O (NK (enc:=(Value.int .i64)) H 1 O O O O ((FB H 0 O)) (O) (fun _=>rfl) Y underlying22 JH O ?_);exact Zz.1):p:=h ⟨k⟩
theorem oN(k:r)(h:Zq r→p:=by intro Zz;refine ak ?_;refine EC 12 O O O (fun _ hS=>DK (v:= .slice _ _ _) O) trivial (CU (AX (fF ?_)));exact Zz.1):p:=h ⟨k⟩
theorem wX(k:r)(h:Zq r→p:=by intro Zz;refine dL ?_;refine BI O Po (BG H 4 O O O FM ?_);exact Zz.1):p:=h ⟨k⟩
theorem qK(k:r)(h:Zq r→p:=by intro Zz;refine BO 81 func151 O (oM ?_);refine jW ?_;refine BI O Po (BG H 4 O O O FM ?_);exact Zz.1):p:=h ⟨k⟩
theorem mM(k:r)(h:Zq r→p:=by intro Zz;refine Ik (u:= .int _ _) H 4 O O O O O O Ji ?_;exact Zz.1):p:=h ⟨k⟩
theorem nI(k:r)(h:Zq r→p:=by intro Zz;refine BD 3 O (Dw H 0 O O O OT NW (jd ?_));exact Zz.1):p:=h ⟨k⟩
theorem dY(k:r)(h:Zq r→p:=by intro Zz;refine EC 5 O O O (fun _ hS=>CQ (v:= .int _ _) O O) trivial (EC 6 O O O (fun _ hS=>CQ (v:= .int _ _) O O) trivial (EC 7 O O O (fun _ hS=>DK (v:= .int _ _) O) trivial (EC 8 O O O (fun _ hS=>DK (v:= .int _ _) O) trivial ?_)));exact Zz.1):p:=h ⟨k⟩
theorem uy(k:r)(h:Zq r→p:=by intro Zz;refine AO (A8 (E8 (dL ?_)));refine BI O Qs (BG H 1 O O q38 Zi (BH O (AO (DC O (AP ?_)))));exact Zz.1):p:=h ⟨k⟩
theorem kS(k:r)(h:Zq r→p:=by intro Zz;refine EC 6 O O O (fun _ hS=>DK (v:= .int _ _) O) trivial (CU (AX (BM (aK ?_))));exact Zz.1):p:=h ⟨k⟩
theorem uY(k:r)(h:Zq r→p:=by intro Zz;refine fK ?_;refine iW ?_;refine BD 3 O (Dw H 8 O O O OT NW (oW ?_));refine s_call O (hG (H.RS 0 O)) (amP O) ?_;exact Zz.1):p:=h ⟨k⟩
theorem tV(k:r)(h:Zq r→p:=by intro Zz;refine bJ ?_;refine AO (BM (aX ?_));exact Zz.1):p:=h ⟨k⟩
theorem lD(k:r)(h:Zq r→p:=by intro Zz;refine fZ ?_;refine CZ 11 O O O (fun _ hS=>CQ (v:= .int _ _) O O) trivial (CZ 12 O O O (fun _ hS=>DK (v:= .int _ _) O) trivial (CZ 13 O O O (fun _ hS=>DK (v:= .int _ _) O) trivial ?_));exact Zz.1):p:=h ⟨k⟩
theorem iU(k:r)(h:Zq r→p:=by intro Zz;refine CZ 5 O O O (fun _ hS=>Cc (v:= .tuple _) O) trivial (CZ 6 O O O (fun _ hS=>CQ (v:= .int _ _) O O) trivial (CZ 7 O O O (fun _ hS=>CQ (v:= .int _ _) O O) trivial (CZ 8 O O O (fun _ hS=>DK (v:= .int _ _) O) trivial (CZ 9 O O O (fun _ hS=>DK (v:= .int _ _) O) trivial ?_))));exact Zz.1):p:=h ⟨k⟩
theorem wL(k:r)(h:Zq r→p:=by intro Zz;refine uo ?_;refine BI O Rh (BG H 0 O O O J7 (AQ O (AQ O (AQ O (s_call O (hSt (H.abu 1 O)) (apU O) ?_)))));exact Zz.1):p:=h ⟨k⟩
theorem aO(k:r)(h:Zq r→p:=by intro Zz;refine CZ 0 O O O (fun _ hS=>Cc (v:= .pointer _) O) (H.BQ [0] O O) (CZ 1 O O O (fun _ hS=>DT O) (H.BQ [0] O O) (CZ 2 O O O (fun _ hS=>Cm O KY) (H.BQ [0] O O) (CZ 3 O O O (fun _ hS=>DR hS 0 O O O KO) (H.BQ [0] O O) ?_)));exact Zz.1):p:=h ⟨k⟩
theorem lu(k:r)(h:Zq r→p:=by intro Zz;refine CZ 5 O O O (fun _ hS=>Cc (v:= .int _ _) O) (H.BQ [0] O O) (BD 4 O ?_);exact Zz.1):p:=h ⟨k⟩
theorem dh(k:r)(h:Zq r→p:=by intro Zz;refine AZ (BA (H.BQ [0] O O) ?_);exact Zz.1):p:=h ⟨k⟩
theorem iT(k:r)(h:Zq r→p:=by intro Zz;refine dh ?_;refine CZ 7 O O O (fun _ hS=>DK (v:= .int _ _) O) (H.BQ [0] O O) (CU (Dp ?_));exact Zz.1):p:=h ⟨k⟩
theorem rQ(k:r)(h:Zq r→p:=by intro Zz;refine BI O KZ (fV ?_);exact Zz.1):p:=h ⟨k⟩
theorem ig(k:r)(h:Zq r→p:=by intro Zz;refine EC 9 O O O (fun _ hS=>Uh (i:=5) (v:= .int .i64 v5) O O O Y O underlying103 Ji FM) trivial (EC 10 O O O (fun _ hS=>DK (v:= .int _ _) O) trivial ?_);exact Zz.1):p:=h ⟨k⟩
theorem gu(k:r)(h:Zq r→p:=by intro Zz;refine En H 0 O O O O O O O Jk ?_;exact Zz.1):p:=h ⟨k⟩
theorem gy(k:r)(h:Zq r→p:=by intro Zz;refine BI O Hy (BG H 0 O O O Gh ?_);exact Zz.1):p:=h ⟨k⟩
theorem ny(k:r)(h:Zq r→p:=by intro Zz;refine E8 (AP (BX O (AV (Ea O) (BH O (AO (DC O (AP (gy ?_))))))));refine AQ O ?_;exact Zz.1):p:=h ⟨k⟩
theorem uz(k:r)(h:Zq r→p:=by intro Zz;refine ny ?_;refine iq ?_;refine AQ O (gy ?_);exact Zz.1):p:=h ⟨k⟩
theorem kM(k:r)(h:Zq r→p:=by intro Zz;refine Bg O (Dw H 2 O O O Ws Jk (s_call O (Xh (H.BQ [0,1] O O).ents) (aay O) ?_));exact Zz.1):p:=h ⟨k⟩
theorem wM(k:r)(h:Zq r→p:=by intro Zz;refine BO 94 func81 O (lW ?_);exact Zz.1):p:=h ⟨k⟩
theorem kP(k:r)(h:Zq r→p:=by intro Zz;refine BH O (AO (A8 (AP (BX O (eU ?_)))));refine AP (iZ ?_);refine gy ?_;refine AV (Di O O Y) (BH O (AO (DC O (AP (AQ O (gy ?_))))));exact Zz.1):p:=h ⟨k⟩
theorem wJ(k:r)(h:Zq r→p:=by intro Zz;refine kP ?_;refine AV (Jy O O Y) (BH O (AO (DC O (AP (rQ ?_)))));exact Zz.1):p:=h ⟨k⟩
theorem vK(k:r)(h:Zq r→p:=by intro Zz;refine dh ?_;refine BD 5 O (s_call O (hDr (H.Bl 1 O)) (am' O) ?_);exact Zz.1):p:=h ⟨k⟩
theorem nU(k:r)(h:Zq r→p:=by intro Zz;refine dh ?_;refine CZ 6 O O O (fun _ hS=>DK (v:= .int _ _) O) (H.BQ [0] O O) (CU (Dp ?_));exact Zz.1):p:=h ⟨k⟩
theorem gB(k:r)(h:Zq r→p:=by intro Zz;refine CZ 4 O O O (fun _ hS=>Cc (v:= .pointer _) O) (H.BQ [0] O O) (CZ 5 O O O (fun _ hS=>DT O) (H.BQ [0] O O) ?_);exact Zz.1):p:=h ⟨k⟩
theorem mG(k:r)(h:Zq r→p:=by intro Zz;refine CZ 7 O O O (fun _ hS=>DR hS 0 O O O FM) (H.BQ [0] O O) (BD 8 O ?_);exact Zz.1):p:=h ⟨k⟩
theorem oD(k:r)(h:Zq r→p:=by intro Zz;refine dh ?_;refine BD 9 O (s_call O (hSr (H.Bl 1 O)) (ao1 O) ?_);exact Zz.1):p:=h ⟨k⟩
theorem dP(k:r)(h:Zq r→p:=by intro Zz;refine CZ 10 O O O (fun _ hS=>DK (v:= .int _ _) O) (H.BQ [0] O O) (CU (Dp ?_));exact Zz.1):p:=h ⟨k⟩
theorem qo(k:r)(h:Zq r→p:=by intro Zz;refine BG H 0 O O O KO (s_call O (hCm (H.Bl 1 O)) (aoT O) ?_);exact Zz.1):p:=h ⟨k⟩
theorem uN(k:r)(h:Zq r→p:=by intro Zz;refine EC 0 O O O (fun _ hS=>Cc (v:= .pointer _) O) (H.BQ [0] O O) (EC 1 O O O (fun _ hS=>DT O) (H.BQ [0] O O) ?_);exact Zz.1):p:=h ⟨k⟩
theorem mQ(k:r)(h:Zq r→p:=by intro Zz;refine A8 (ai0 O O (Ls O) O O (ajD O _) zS (AX ?_));exact Zz.1):p:=h ⟨k⟩
theorem au(k:r)(h:Zq r→p:=by intro Zz;refine CZ 0 O O O (fun _ hS=>Cc (v:= .pointer _) O) (H.BQ [0] O O) (CZ 1 O O O (fun _ hS=>DT O) (H.BQ [0] O O) (CZ 2 O O O (fun _ hS=>Cm O IB) (H.BQ [0] O O) (CZ 3 O O O (fun _ hS=>DR hS 0 O O O KO) (H.BQ [0] O O) ?_)));exact Zz.1):p:=h ⟨k⟩
theorem dU(k:r)(h:Zq r→p:=by intro Zz;refine au ?_;refine CZ 5 O O O (fun _ hS=>Cc (v:= .pointer _) O) (H.BQ [0] O O) (CZ 6 O O O (fun _ hS=>DT O) (H.BQ [0] O O) (CZ 7 O O O (fun _ hS=>Cm O Qh) (H.BQ [0] O O) (CZ 8 O O O (fun _ hS=>DR hS 0 O O O FM) (H.BQ [0] O O) (BD 4 O ?_))));exact Zz.1):p:=h ⟨k⟩
theorem vX(k:r)(h:Zq r→p:=by intro Zz;refine dh ?_;refine BD 9 O (s_call O (hRo (H.Bl 1 O)) (arP O) ?_);exact Zz.1):p:=h ⟨k⟩
theorem iJ(k:r)(h:Zq r→p:=by intro Zz;refine dh ?_;refine CZ 6 O O O (fun _ hS=>Cc (v:= .tuple _) O) (H.BQ [0] O O) (CZ 7 O O O (fun _ hS=>CQ (v:= .int _ _) O O) (H.BQ [0] O O) (CZ 8 O O O (fun _ hS=>CQ (v:= .int _ _) O O) (H.BQ [0] O O) (CZ 9 O O O (fun _ hS=>DK (v:= .int _ _) O) (H.BQ [0] O O) (dP ?_))));exact Zz.1):p:=h ⟨k⟩
theorem lI(k:r)(h:Zq r→p:=by intro Zz;refine BG (HR.same H.only) 1 O O O KO ?_;exact Zz.1):p:=h ⟨k⟩
theorem tN(k:r)(h:Zq r→p:=by intro Zz;refine BG (HR.same H.only) 0 O O O abR (BU O (BI O IB (lI ?_)));exact Zz.1):p:=h ⟨k⟩
theorem lK(k:r)(h:Zq r→p:=by intro Zz;refine BG (HR.same H.only) 0 O O O abR (ak ?_);refine CZ 1 O O O (fun _ hS=>DT O) trivial (CZ 2 O O O (fun _ hS=>Cm O IB) trivial ?_);exact Zz.1):p:=h ⟨k⟩
theorem iR(k:r)(h:Zq r→p:=by intro Zz;refine BG (HR.same H.only) 0 O O O abR (ak ?_);refine CZ 6 O O O (fun _ hS=>DT O) trivial (CZ 7 O O O (fun _ hS=>Cm O Qh) trivial ?_);exact Zz.1):p:=h ⟨k⟩
theorem kX(k:r)(h:Zq r→p:=by intro Zz;refine BG (HR.same H.only) 1 O O O FM ?_;exact Zz.1):p:=h ⟨k⟩
theorem aH(k:r)(h:Zq r→p:=by intro Zz;refine ak ?_;refine CZ 9 O O O (fun _ hS=>Uh (i:=2) (v:= .int .i64 (Pl.IU l)) O O O Y O underlying103 Ji FM) trivial (CZ 10 O O O (fun _ hS=>DK (v:= .int _ _) O) trivial (CU (Dp ?_)));exact Zz.1):p:=h ⟨k⟩
theorem wG(k:r)(h:Zq r→p:=by intro Zz;refine AZ (BA (H.BQ [1,2] O O) (CZ 13 O O O (fun _ hS=>DK (v:= .bool _) O) (H.BQ [1,2] O O) (CU (Dp ?_))));exact Zz.1):p:=h ⟨k⟩
theorem nG(k:r)(h:Zq r→p:=by intro Zz;refine BI O NY (BG H 0 O O O Gh ?_);exact Zz.1):p:=h ⟨k⟩
theorem vN(k:r)(h:Zq r→p:=by intro Zz;refine AV (Cc (v:= .map _) O) (nG ?_);refine AV (agr H 2 O O O (gk) (hm) underlying56 (IY GH)) (aF ?_);exact Zz.1):p:=h ⟨k⟩
theorem uU(k:r)(h:Zq r→p:=by intro Zz;refine AV (Cc (v:= .map _) O) (nG ?_);refine AV (afI H 2 O O O (gk) (hm) underlying56 (IY GH) O) (aF ?_);exact Zz.1):p:=h ⟨k⟩
theorem jr(k:r)(h:Zq r→p:=by intro Zz;refine CB O (NK (enc:=(Value.int .u64)) H 0 (xs:=([]:List Int)) O O O O ((FB H 4 O)) (O) (fun _=>rfl) Y underlying55 GH O ?_);exact Zz.1):p:=h ⟨k⟩
theorem fQ(k:r)(h:Zq r→p:=by intro Zz;refine Ym (enc:=(Value.int .u64)) (zs:=[u.f1]) H O O O Y Aw underlying55 GH ?_;exact Zz.1):p:=h ⟨k⟩
theorem fH(k:r)(h:Zq r→p:=by intro Zz;refine BD 6 O (NK (enc:=(Value.int .u64)) H 1 O O O O ((FB H 0 O)) (O) (fun _=>rfl) Y underlying55 GH O ?_);exact Zz.1):p:=h ⟨k⟩
theorem gV(k:r)(h:Zq r→p:=by intro Zz;refine CZ 7 O O O (fun _ hS=>DK (v:= .slice _ _ _) O) trivial (CU (CS (Dp ?_)));exact Zz.1):p:=h ⟨k⟩
theorem rG(k:r)(h:Zq r→p:=by intro Zz;refine ak ?_;refine BD 2 O (NK (enc:=(Value.int .u64)) H 1 (xs:=([]:List Int)) O O O O ((FB H 5 O)) (O) (fun _=>rfl) Y underlying55 GH O ?_);exact Zz.1):p:=h ⟨k⟩
theorem vZ(k:r)(h:Zq r→p:=by intro Zz;refine DF (AV (Cc (v:= .map _) O) (BI O NY (BG H 2 O O O Gh ?_)));exact Zz.1):p:=h ⟨k⟩
theorem oJ(k:r)(h:Zq r→p:=by intro Zz;refine E8 (AP (iq ?_));refine iq ?_;refine iq ?_;exact Zz.1):p:=h ⟨k⟩
theorem qR(k:r)(h:Zq r→p:=by intro Zz;refine Dz O (Eb O underlying55 (AV (Dc O O Y) (BX O (Bo 214 O (Ls O) (s_call (ET 214 Aw O) (hTl (H.BQ [3,5] O O).ents) (auu O) ?_)))));exact Zz.1):p:=h ⟨k⟩
theorem iV(k:r)(h:Zq r→p:=by intro Zz;refine Bo 214 O (Cc (v:= .map _) O) (Bo 214 O (aeG H 2 O O underlying56) (Bo 214 O (Dc O O Y) (DW O O (BX O (Bo 221 O (Yq O) (Bo 221 O (Yq O) (Bo 221 O (amh O O O underlying4) (DW O O (BX O (Bo 226 O (Gm O) (Bo 226 O (Gm O) (Bo 226 O (Dc O O Y) (DW O O ?_)))))))))))));exact Zz.1):p:=h ⟨k⟩
end
section
section
open Go.RowKit
theorem FK{k:IntKind}{a b:Int}(h:a=b):Ending.returned (.int k a)= .returned (.int k b):=by rw[h]
theorem FN{a b:Bool}(h:a=b):Ending.returned (.bool a)= .returned (.bool b):=by rw[h]
theorem Ut{k:IntKind}{a b:Int}{c d:Bool}(h:a=b)(h2:c=d):Ending.returned (.tuple #[.int k a,.bool c])= .returned (.tuple #[.int k b,.bool d]):=by rw[h,h2]
theorem abe{k l:IntKind}{a b c d:Int}(h:a=b)(h2:c=d):Ending.returned (.tuple #[.int k a,.int l c])= .returned (.tuple #[.int k b,.int l d]):=by rw[h,h2]
theorem ZW{P:Program}{f:FuncId}{args:Array Value}{W:World}{v:Value}(h:Calls P f args W fun e w'=>e= .returned v∧W=w'):Calls P f args W fun e w'=>e= .returned v∧w'=W:=h.mono fun _ _ ⟨a,b⟩=>⟨a,b.symm⟩
theorem below_drewN{B:Nat}{a w:World}(h:Below B a w)(n:Nat):Below B a (w.drewN n):=⟨h.os,h.tape,h.output,h.size,h.block⟩
section
variable{H:Type}{enc:TypeId×Value→H}{P:Program}{w:World}{base:Nat}{spare:Nat→Bool}{held:Bool}
open Go.ChangeShapes Go.WideShapes
end
end
end
section
section
open Go.RowKit
theorem anz:(prog.info? 5).map (fun i=>(i.zero,i.size,i.bytes))=some (some (.int .u8 0),1,1):=by kernel_rfl
theorem afm:(prog.info? 26).map (fun i=>(i.zero,i.size,i.bytes))=some (some (.int .u64 0),1,8):=by kernel_rfl
theorem afS:(prog.info? 3).map (fun i=>(i.zero,i.size,i.bytes))=some (some (.int .i64 0),1,8):=by kernel_rfl
def Gv(w:World)(B:Nat)(A:Option Addr)(m:Nat)(xs:List Value):Prop:=
 xs.length=m∧(0<m→∃b off,A=some ⟨b,off,none⟩∧b<B∧∀j u,xs[j]? =some u→w.cell? ⟨b,off+j,none⟩=some u)
theorem cell_lt{w:World}{p:Addr}{u:Value}(h:w.cell? p=some u):p.block<w.heap.size:=by
 rcases J9 p.block w.heap.size with h1|h1
 ·exact h1
 ·exfalso
  simp[World.cell?,Oj h1]at h
theorem Gv.len{w:World}{B m:Nat}{A:Option Addr}{xs:List Value}(h:Gv w B A m xs):xs.length=m:=h.1
theorem Gv.at_{w:World}{B m:Nat}{A:Option Addr}{xs:List Value}(h:Gv w B A m xs){j:Nat}(hj:j<m):
 ∃b off u,A=some ⟨b,off,none⟩∧b<B∧xs[j]? =some u∧w.cell? ⟨b,off+j,none⟩=some u:=by
 obtain⟨b,off,e,hb,hc⟩:=h.2 Y
 have hl:j<xs.length:=by rw[h.1];exact hj
 exact⟨b,off,xs[j],e,hb,Ba hl,hc j _ (Ba hl)⟩
theorem Gv.keep{w w':World}{B m:Nat}{A:Option Addr}{xs:List Value}(h:Gv w B A m xs)(hk:∀p:Addr,p.block<B→w'.cell? p=w.cell? p):Gv w' B A m xs:=
 ⟨h.1,fun hm=>by
  obtain⟨b,off,e,hb,hc⟩:=h.2 hm
  exact⟨b,off,e,hb,fun j u hu=>(hk _ hb).trans (hc j u hu)⟩⟩
theorem Gv.more{w:World}{B B' m:Nat}{A:Option Addr}{xs:List Value}(h:Gv w B A m xs)(hB:B≤B'):Gv w B' A m xs:=
 ⟨h.1,fun hm=>by
  obtain⟨b,off,e,hb,hc⟩:=h.2 hm
  exact⟨b,off,e,Y,hc⟩⟩
theorem Gv.below{w w':World}{B m:Nat}{A:Option Addr}{xs:List Value}(h:Gv w B A m xs)(hb:Below B w w'):Gv w' B A m xs:=h.keep fun _ hp=>hb.cell hp
theorem Gv.alloc{w:World}{B m:Nat}{A:Option Addr}{xs:List Value}(h:Gv w B A m xs)(hB:B≤w.heap.size)(o:Obj):Gv (w.alloc o) B A m xs:=
 h.keep fun p hp=>World.cell?_alloc_lt w o p Y
theorem Gv.drewN{w:World}{B m:Nat}{A:Option Addr}{xs:List Value}(h:Gv w B A m xs)(n:Nat):Gv (w.drewN n) B A m xs:=h
theorem Gv.nil{w:World}{B:Nat}{A:Option Addr}:Gv w B A 0 []:=⟨rfl,fun h=>absurd h Y⟩
theorem Gv.of_block{w:World}{g m:Nat}{cs:Array Value}{t:TypeId}(h:w.heap[g]? =some (.cells cs t (0,0)))(hg:g<w.heap.size)(hm:cs.size=m):Gv w w.heap.size (some ⟨g,0,none⟩) m cs.toList:=
 ⟨by simpa using hm,fun _=>⟨g,0,rfl,hg,fun j u hu=>by
  rw[Joins.cell_of_block h];simpa using hu⟩⟩
def Ints(k:IntKind)(zs:List Int):Prop:=∀z∈zs,(Lit.int k z).wf=true
theorem Gv.int{k:IntKind}{w:World}{B m:Nat}{A:Option Addr}{xs:List Int}(h:Gv w B A m (xs.map (Value.int k)))(hi:Ints k xs){j:Nat}(hj:j<m):
 ∃b off z,A=some ⟨b,off,none⟩∧b<B∧xs[j]? =some z∧(Lit.int k z).wf=true∧w.cell? ⟨b,off+j,none⟩=some (.int k z):=by
 obtain⟨b,off,u,e,hb,hx,hc⟩:=h.at_ hj
 rw[Cb]at hx
 cases hz:xs[j]? with
 |none=>rw[hz]at hx;simp at hx
 |some z=>
  rw[hz]at hx
  simp at hx
  exact⟨b,off,z,e,hb,rfl,hi z (BP hz),by rw[hc,hx]⟩
theorem Um{α:Type}{l:List α}{j:Nat}{z:α}(h:l[j]? =some z):l.take (j+1)=l.take j++ [z]:=by
 rw[J8,h];rfl
theorem afM{w:World}{base:Nat}{e:TypeId}{size n:Nat}{v:Value}{xs:List Value}(h:w.ownsRow base e size v n xs):∀k,v.ownBlock=some k→base≤k:=by
 intro k hk
 rcases h.2 with⟨rfl,_⟩|⟨g,cap,cur,rfl,hg,_⟩
 ·simp[Value.ownBlock]at hk
 ·simp[Value.ownBlock]at hk;omega
theorem afR{P:Program}{w:World}{ops:Array Oper}{rest:List Oper}{o:Oper}{a:Act}{Q:Exit→Act→World→Prop}(hgd:o.guard=none)(s x:Operand)(t:TypeId)
 (ho:o.op= .call {callee:= .builtin .append,args:= #[s,x],argTypes:= #[t,t]})
 (base:Nat) (e:TypeId) (i:TypeInfo) (z:Value) (bytes:Nat) (ht:P.underlying t=some (.slice e)) (hi:P.info? e=some i) (hz:i.zero=some z)
 (hsize:i.size=1) (hby:i.bytes=bytes) (hzs:z.cells.size=1)
 (v:Value) (n:Nat) (xs:List Value) (hs:a.eval s=v) (hown:w.ownsRow base e 1 v n xs) (u:Value) (c:Nat)
 (hx:a.eval x= .slice (some ⟨w.heap.size,0,none⟩) 1 c) (hu:u.oneCell'=true)
 (h63:n+1≤maxLen) (hbytes:(n+1)*bytes≤140737488355328) (hbase:base≤w.heap.size) (B:Nat) (w0:World) (hb:Below B w0 w) (hB:B≤base)
 (h:∀v' w',w'.ownsRow base e 1 v' (n+1) (xs++ [u])→Below B w0 w'→w.heap.size<w'.heap.size→(w.alloc (.cells #[u] e)).grownBy w' v.ownBlock→wpList P ops Q rest (a.put o.dst v') w'):
 wpList P ops Q (o::rest) a (w.alloc (.cells #[u] e)):=by
 refine wpList_append_own (P:=P) (w.alloc (.cells #[u] e)) hgd s x t ho base e i z 1 bytes ht hi hz hsize hby hzs Ak v n xs hs (hown.alloc _) ⟨w.heap.size,0,none⟩ 1 c [u] hx O ?_ ?_ h63 hbytes Am ?_
 ·intro j u' hj
  match j,hj with
  |0,hj=>simp at hj;subst hj;simp[Addr.add]
 ·intro u' hj;simp at hj;subst hj;exact hu
 ·intro v' w' h1 h2 _
  have h3:Below B w0 (w.alloc (.cells #[u] e)):=hb.alloc Y _
  have h4:=h2.size
  simp at h4
  exact h v' w' h1 (h3.grown h2 Am (fun k hk=>FC hB (afM hown k hk))) Y h2
theorem Gv.aq2{w:World}{base n:Nat}{e:TypeId}{A:Option Addr}{c:Nat}{xs:List Value}(h:w.ownsRow base e 1 (.slice A n c) n xs):Gv w w.heap.size A n xs:=by
 refine⟨by simpa using h.1,fun hn=>?_⟩
 obtain⟨g,cap,hv,hlt⟩:∃g cap,Value.slice A n c= .slice (some ⟨g,0,none⟩) n cap∧g<w.heap.size:=by
  rcases h.2 with⟨_,h0⟩|⟨g,cap,cur,hv,_,hh,_⟩
  ·omega
  ·refine⟨g,cap,hv,?_⟩
   rcases J9 g w.heap.size with h1|h1
   ·exact h1
   ·rw[Oj h1]at hh;cases hh
 obtain⟨rfl,rfl⟩:A=some ⟨g,0,none⟩∧c=cap:=by injection hv with h1 _ h3;exact⟨h1,h3⟩
 refine⟨g,0,rfl,hlt,fun j u hu=>?_⟩
 have hx:=h.1
 have hj:j<xs.length:=(BK.1 hu).1
 rw[EH,h.cellAt j Y,hu]
theorem ajd{w:World}{base n:Nat}{e:TypeId}{size:Nat}{v:Value}{xs:List Value}(h:w.ownsRow base e size v n xs):∃A c,v= .slice A n c∧n≤c∧c≤maxLen∧(A=none→c=0):=by
 rcases h.2 with⟨rfl,rfl⟩|⟨g,cap,cur,rfl,_,_,h1,h2,_⟩
 ·exact⟨none,0,rfl,BF _,Jh _,fun _=>rfl⟩
 ·exact⟨some ⟨g,0,none⟩,cap,rfl,h1,h2,fun h=>by cases h⟩
theorem wf_u8{z:Int}(h:0≤z∧z≤255):(Lit.int .u8 z).wf=true:=by
 simp[Lit.wf,IntKind.min,IntKind.max,IntKind.signed,IntKind.bits];omega
theorem wf_u64{z:Int}(h:0≤z∧z≤18446744073709551615):(Lit.int .u64 z).wf=true:=by
 simp[Lit.wf,IntKind.min,IntKind.max,IntKind.signed,IntKind.bits];omega
theorem wf_i64{z:Int}(h: -9223372036854775808≤z∧z≤9223372036854775807):(Lit.int .i64 z).wf=true:=by
 simp[Lit.wf,IntKind.min,IntKind.max,IntKind.signed,IntKind.bits];omega
theorem U4{P:Program}(w:World){T E:TypeId}{n:Nat}{kk:IntKind}{i0:TypeInfo}(ht:P.underlying T=some (.array n E))(he:P.underlying E=some (.int kk))(hc:P.cellsOf E=1)(hi:P.info? E=some i0)
 (cs:Array Value) (k:IntKind) (i:Int) (u:Value) (h0:0≤i) (h1:i<n) (hu:cs[i.toNat]? =some u):(Instr.index T (.agg cs) (.int k i)).run P w= .ok u w:=by
 simp[Instr.index,asIntOf,run_underlying ht,run_sizeOf w hi,hc,part,isAgg,run_underlying he,h0,h1,hu]
theorem wpList_store_row{P:Program}{w:World}{ops:Array Oper}{rest:List Oper}{o:Oper}{a:Act}{Q:Exit→Act→World→Prop}(hgd:o.guard=none)(T:TypeId)(p x:Operand)(ho:o.op= .store T p x)
 (g:Nat) (cur cs:Array Value) (t:TypeId) (hp:a.eval p= .pointer (some ⟨g,0,none⟩)) (hx:a.eval x= .agg cs) (hg:w.heap[g]? =some (.cells cur t (0,0))) (hsz:cs.size=cur.size)
 {i0:TypeInfo} (hi:P.info? T=some i0) (hT:P.cellsOf T=cs.size) (h1:∀v∈cs.toList,v.oneCell'=true)
 (h:wpList P ops Q rest (a.put o.dst undef) (w.setRow g cs)):wpList P ops Q (o::rest) a w:=by
 refine wpList_plain hgd fun K hK=>?_
 have hs:=run_storeCells_at (P:=P) g 0 t cs.toList 0 cur w hg (by simp[hsz]) h1
 have e:(cur.toList.take (0+0)++cs.toList++cur.toList.drop (0+0+cs.toList.length)).toArray=cs:=by
  have hd:cur.toList.drop (0+0+cs.toList.length)=[]:=adQ (by simp[hsz])
  rw[hd];simp
 rw[e]at hs
 have hv:(storeVar T ⟨g,0,none⟩ (.agg cs)).run P w= .ok () (w.setRow g cs):=by
  have hc:(Value.agg cs).cells=cs:=rfl
  simp only[storeVar,Sem.run_bind,run_sizeOf w hi,Result.andThen_ok,hc,hT,ne_eq,not_true_eq_false,if_false]
  exact hs
 unfold Oper.wp execOp
 simp only[ho,hp,hx,Instr.storeAt,Instr.sureAddr,Sem.run_bind,Sem.run_pure,Result.andThen_ok,hv]
 exact hK _ _ h
theorem IW{w W w':World}{p1 p2:Addr}{v1 v2:Value}(hb:Below W.heap.size W w')(h:W.cell? p1=some v1∧W.cell? p2=some v2∧Below w.heap.size w W):w'.cell? p1=some v1∧w'.cell? p2=some v2∧Below w.heap.size w w':=by
 obtain⟨h1,h2,hB⟩:=h
 exact⟨(hb.cell (cell_lt h1)).trans h1,(hb.cell (cell_lt h2)).trans h2,hB.trans (hb.mono hB.size)⟩
theorem IV{w W:World}{p1 p2:Addr}{v1 v2:Value}(o:Obj)(h:W.cell? p1=some v1∧W.cell? p2=some v2∧Below w.heap.size w W):(W.alloc o).cell? p1=some v1∧(W.alloc o).cell? p2=some v2∧Below w.heap.size w (W.alloc o):=by
 obtain⟨h1,h2,hB⟩:=h
 exact⟨(World.cell?_alloc_lt W o p1 (cell_lt h1)).trans h1,(World.cell?_alloc_lt W o p2 (cell_lt h2)).trans h2,hB.alloc hB.size o⟩
theorem Us{w W:World}{p1 p2:Addr}{v1 v2:Value}(h:W.cell? p1=some v1∧W.cell? p2=some v2∧Below w.heap.size w W):W.drew.cell? p1=some v1∧W.drew.cell? p2=some v2∧Below w.heap.size w W.drew:=by
 obtain⟨h1,h2,hB⟩:=h
 exact⟨h1,h2,hB.drew⟩
theorem SC{w W w':World}{p1 p2 p3:Addr}{v1 v2 v3:Value}(hb:Below W.heap.size W w')(h:W.cell? p1=some v1∧W.cell? p2=some v2∧W.cell? p3=some v3∧Below w.heap.size w W):w'.cell? p1=some v1∧w'.cell? p2=some v2∧w'.cell? p3=some v3∧Below w.heap.size w w':=by
 obtain⟨h1,h2,h3,hB⟩:=h
 exact⟨(hb.cell (cell_lt h1)).trans h1,(hb.cell (cell_lt h2)).trans h2,(hb.cell (cell_lt h3)).trans h3,hB.trans (hb.mono hB.size)⟩
theorem Uw{w W:World}{p1 p2 p3:Addr}{v1 v2 v3:Value}(o:Obj)(h:W.cell? p1=some v1∧W.cell? p2=some v2∧W.cell? p3=some v3∧Below w.heap.size w W):(W.alloc o).cell? p1=some v1∧(W.alloc o).cell? p2=some v2∧(W.alloc o).cell? p3=some v3∧Below w.heap.size w (W.alloc o):=by
 obtain⟨h1,h2,h3,hB⟩:=h
 exact⟨(World.cell?_alloc_lt W o p1 (cell_lt h1)).trans h1,(World.cell?_alloc_lt W o p2 (cell_lt h2)).trans h2,(World.cell?_alloc_lt W o p3 (cell_lt h3)).trans h3,hB.alloc hB.size o⟩
theorem ag'{w W:World}{p1 p2 p3:Addr}{v1 v2 v3:Value}(h:W.cell? p1=some v1∧W.cell? p2=some v2∧W.cell? p3=some v3∧Below w.heap.size w W):W.drew.cell? p1=some v1∧W.drew.cell? p2=some v2∧W.drew.cell? p3=some v3∧Below w.heap.size w W.drew:=by
 obtain⟨h1,h2,h3,hB⟩:=h
 exact⟨h1,h2,h3,hB.drew⟩
end
end
section
section
open Go.RowKit
def Ko(W:World)(b:Nat)(cs:Array Value)(T:TypeId):Prop:=W.heap[b]? =some (.cells cs T (0,0))
theorem Ko.lt{W:World}{b:Nat}{cs:Array Value}{T:TypeId}(h:Ko W b cs T):b<W.heap.size:=by
 rcases J9 b W.heap.size with h1|h1
 ·exact h1
 ·unfold Ko at h;rw[Oj h1]at h;cases h
theorem Ko.cell{W:World}{b:Nat}{cs:Array Value}{T:TypeId}(h:Ko W b cs T)(i:Nat)(u:Value)(hu:cs[i]? =some u):W.cell? ⟨b,i,none⟩=some u:=by
 rw[Joins.cell_of_block h];exact hu
theorem Ko.frozen{W:World}{b:Nat}{cs:Array Value}{T:TypeId}(h:Ko W b cs T)(i:Nat):W.frozen? ⟨b,i,none⟩=false:=frozen_of_row W b i cs T h
theorem Ko.below{W W':World}{B b:Nat}{cs:Array Value}{T:TypeId}(h:Ko W b cs T)(hb:Below B W W')(hB:b<B):Ko W' b cs T:=by
 unfold Ko at*;rw[hb.block b hB];exact h
theorem Ko.new(w:World)(cs:Array Value)(T:TypeId):Ko (w.alloc (.cells cs T)) w.heap.size cs T:=heap_alloc_new w _
theorem Ko.new1(w:World)(o:Obj)(cs:Array Value)(T:TypeId):Ko ((w.alloc o).alloc (.cells cs T)) (w.heap.size+1) cs T:=by
 have:=Ko.new (w.alloc o) cs T
 rwa [World.size_alloc]at this
theorem Ko.new2(w:World)(o p:Obj)(cs:Array Value)(T:TypeId):Ko (((w.alloc o).alloc p).alloc (.cells cs T)) (w.heap.size+1+1) cs T:=by
 have:=Ko.new ((w.alloc o).alloc p) cs T
 rwa [World.size_alloc,World.size_alloc]at this
theorem Gv.Yv{W:World}{b:Nat}{cs:Array Value}{T:TypeId}(h:Ko W b cs T)(m:Nat)(hm:m≤cs.size):Gv W W.heap.size (some ⟨b,0,none⟩) m (cs.toList.take m):=by
 refine⟨by simp;omega,fun _=>⟨b,0,rfl,h.lt,fun j u hu=>?_⟩⟩
 have hj:j<m:=by
  have:=(BK.1 hu).1
  simp at this;omega
 rw[ES hj]at hu
 rw[EH]
 exact h.cell j u (by simpa using hu)
theorem Ko.alloc{W:World}{b:Nat}{cs:Array Value}{T:TypeId}(h:Ko W b cs T)(o:Obj):Ko (W.alloc o) b cs T:=
 h.below ((Below.refl W.heap.size W).alloc (BF _) o) h.lt
theorem Ko.drewN{W:World}{b:Nat}{cs:Array Value}{T:TypeId}(h:Ko W b cs T)(n:Nat):Ko (W.drewN n) b cs T:=h
theorem Ko.drew{W:World}{b:Nat}{cs:Array Value}{T:TypeId}(h:Ko W b cs T):Ko W.drew b cs T:=h
theorem Ko.set{W:World}{b:Nat}{cs:Array Value}{T:TypeId}(h:Ko W b cs T)(j:Nat)(u:Value):Ko (W.setCell ⟨b,j,none⟩ u) b (cs.setIfInBounds j u) T:=heap_setCell_same W b j cs T u h
theorem Ko.other{W:World}{b:Nat}{cs:Array Value}{T:TypeId}(h:Ko W b cs T)(p:Addr)(u:Value)(hp:p.block≠b):Ko (W.setCell p u) b cs T:=by
 unfold Ko;rw[heap_setCell_other W p b u (by simpa using fun e=>hp e.symm)];exact h
end
end
section
section
open Go.RowKit
end
end
section
section
open Go.RowKit
theorem Ko.setRow{W:World}{b:Nat}{old:Array Value}{T:TypeId}(h:Ko W b old T)(cs:Array Value):Ko (W.setRow b cs) b cs T:=setRow_heap W b old cs T (0,0) h
theorem Ko.setRow_other{W:World}{b g:Nat}{old:Array Value}{T:TypeId}(h:Ko W b old T)(cs:Array Value)(hne:b≠g):Ko (W.setRow g cs) b old T:=by
 unfold Ko;rw[Go.setRow_other W g b cs hne];exact h
end
end
section
section
open Go.RowKit
end
end
section
section
open Go.RowKit
def eqB(xs ys:List Int):Bool:=decide (xs=ys)
theorem ahI(xs ys:List Int)(h:xs=ys):eqB xs ys=true:=by unfold eqB;simpa using h
theorem aqN(xs ys:List Int)(h:xs≠ys):eqB xs ys=false:=by unfold eqB;simpa using h
end
end
section
section
open Go.RowKit
section
variable{P:Program}(w:World)
theorem SS(d:Nat){e:TypeId}{kk k:IntKind}(he:P.underlying e=some (.int kk))(xs ys:List Int)(n:Nat)(hx:xs.length=n)(hy:ys.length=n):
 ∀is:List Nat,(∀i∈is,i<n)→(Op.eqItems (d+1) e 1 (xs.map (Value.int k)).toArray (ys.map (Value.int k)).toArray is).run P w= .ok (is.all fun i=>xs.getD i 0==ys.getD i 0) w
 | [],_=>by simp[Op.eqItems]
 |i::is,h=>by
  have hi:i<n:=h i J
  have px:(part e (xs.map (Value.int k)).toArray (i*1)).run P w= .ok (.int k (xs.getD i 0)) w:=by
   simp[part,isAgg,run_underlying he,List.getD,Ba (show i<xs.length by omega)]
  have py:(part e (ys.map (Value.int k)).toArray (i*1)).run P w= .ok (.int k (ys.getD i 0)) w:=by
   simp[part,isAgg,run_underlying he,List.getD,Ba (show i<ys.length by omega)]
  have ih:=SS d (k:=k) he xs ys n hx hy is (fun j hj=>h j (by simp[hj]))
  simp only[Op.eqItems,Sem.run_bind,px,py,run_equalIn_int w d e k kk _ _ he,Result.andThen_ok,List.all_cons]
  cases hb:(xs.getD i 0==ys.getD i 0)
  ·simp
  ·simpa using ih
theorem TA(d:Nat){t e:TypeId}{n:Nat}{kk k:IntKind}(ht:P.underlying t=some (.array n e))(he:P.underlying e=some (.int kk)){i:TypeInfo}(hi:P.info? e=some i)(hc:P.cellsOf e=1)(xs ys:List Int)(hx:xs.length=n)(hy:ys.length=n):
 (Op.equalIn (d+2) t (.agg (xs.map (Value.int k)).toArray) (.agg (ys.map (Value.int k)).toArray)).run P w= .ok (eqB xs ys) w:=by
 rw[run_equalIn_array w (d+1) _ _ ht hi,hc,SS w d he xs ys n hx hy (List.range n) (fun i hi=>Fg.1 hi)]
 congr 1
 unfold eqB
 rw[Bool.eq_iff_iff]
 simp only[Tt,Fg,beq_iff_eq,decide_eq_true_eq]
 constructor
 ·intro h
  apply JK Y
  intro j h1 h2
  have:=h j Y
  simpa [List.getD,Ba h1,Ba h2]using this
 ·rintro rfl _ _;rfl
end
end
end
section
namespace Cl
open Go Go.RowKit
def szs:List Int:=[2,3,4,5,6,7,8,10,12,14,16,18,20,24,28,32,36,40,46,51,56,64,73,85,92,102,113,128,146,170,204,256]
def sz(j:Nat):Int:=szs.getD j 0
def SZ:Value:= .agg (szs.map (Value.int .i64)).toArray
def words(k:Int):Int:=if 0≤k∧k<32 then sz k.toNat else 0
theorem ajw(k:Int)(h:k<0∨32≤k):words k=0:=by unfold words;rw[if_neg Y]
theorem XW(k:Int)(h:0≤k)(h2:k<32):words k=sz k.toNat:=by unfold words;rw[if_pos ⟨h,h2⟩]
theorem ap6:∀j<32,2≤sz j∧sz j≤256:=by decide
theorem ao4:∀j<31,sz j<sz (j+1):=by decide
theorem U8(k:Int):0≤words k∧words k≤256:=by
 unfold words;split
 ·have:=ap6 k.toNat Y;omega
 ·omega
theorem Gt(k:Int)(h:0≤k)(h2:k<32):2≤words k:=by rw[XW k h h2];exact(ap6 k.toNat Y).1
theorem anV(d:Nat):∀j,j+d<32→sz j≤sz (j+d):=by
 induction d with
 |zero=>intro j _;exact Px _
 |succ d ih=>
  intro j h;have a:=ih j Y;have b:=ao4 (j+d) Y;have e:j+(d+1)=j+d+1:=Y
  rw[e];omega
theorem ahG(i j:Int)(h0:0≤i)(h:i≤j)(h2:j<32):words i≤words j:=by
 rw[XW i h0 Y,XW j Y h2]
 have:=anV (j.toNat-i.toNat) i.toNat Y
 rwa [show i.toNat+(j.toNat-i.toNat)=j.toNat from by omega]at this
theorem at1(k:Int)(h:0≤k)(h2:k<32):(szs.map (Value.int .i64)).toArray[k.toNat]? =some (.int .i64 (words k)):=by
 rw[XW k h h2]
 have hl:szs.length=32:=rfl
 have:k.toNat<szs.length:=Y
 simp[sz,Ba this]
def Least(n k:Int):Prop:=0≤k∧k<32∧n≤words k∧∀j,0≤j→j<k→words j<n
theorem Least.unique{n k l:Int}(h:Least n k)(h2:Least n l):k=l:=by
 obtain⟨a1,a2,a3,a4⟩:=h
 obtain⟨b1,b2,b3,b4⟩:=h2
 rcases LQ k l with h|h|h
 ·have:=b4 k a1 h;omega
 ·exact h
 ·have:=a4 l b1 h;omega
theorem Least.bd{n k:Int}(h:Least n k):0≤k∧k<32:=⟨h.1,h.2.1⟩
theorem Least.lt{n k:Int}(h:Least n k)(j:Int)(h0:0≤j)(h1:j<k):words j<n:=h.2.2.2 j h0 h1
theorem Least.le{n k:Int}(h:Least n k):n≤words k:=h.2.2.1
def Zt(n:Int):Nat→Nat→Nat
 |0,j=>j
 |f+1,j=>if n≤words j then j else Zt n f (j+1)
theorem ahC(n:Int)(f:Nat):∀j,j+f≤31→(∀i:Int,0≤i→i<j→words i<n)→(∃k:Int,(j:Int)≤k∧k≤j+f∧n≤words k)→Least n (Zt n f j):=by
 induction f with
 |zero=>
  intro j hj h1 ⟨k,k1,k2,k3⟩
  obtain rfl:k=(j:Int):=Y
  exact⟨by unfold Zt;omega,by unfold Zt;omega,by unfold Zt;exact k3,by unfold Zt;exact h1⟩
 |succ f ih=>
  intro j hj h1 ⟨k,k1,k2,k3⟩
  unfold Zt
  by_cases h:n≤words j
  ·rw[if_pos h];exact⟨Y,Y,h,h1⟩
  ·rw[if_neg h]
   refine ih (j+1) Y (fun i i0 i1=>?_) ⟨k,?_,Y,k3⟩
   ·by_cases hi:i<j
    ·exact h1 i i0 hi
    ·obtain rfl:i=(j:Int):=Y
     omega
   ·rcases Int.lt_or_le j k with h2|h2
    ·omega
    ·obtain rfl:k=(j:Int):=Y
     omega
def Yo(n:Int):Int:=if 1≤n∧n≤256 then(Zt n 31 0:Nat)else 0
def ofB(n:Int):Bool:=decide (1≤n∧n≤256)
theorem Tf(n:Int)(h1:1≤n)(h2:n≤256):Least n (Yo n):=by
 have h31:n≤words 31:=by
  have:words 31=256:=by decide
  omega
 unfold Yo
 rw[if_pos ⟨h1,h2⟩]
 exact ahC n 31 0 Y (fun i a b=>Y) ⟨31,Y,Y,h31⟩
theorem adX(n:Int)(h:n<1∨256<n):Yo n=0:=by unfold Yo;rw[if_neg Y]
theorem YJ(n:Int):0≤Yo n∧Yo n<32:=by
 by_cases h:1≤n∧n≤256
 ·exact(Tf n h.1 h.2).bd
 ·rw[adX n Y];omega
theorem ank(n:Int)(h1:1≤n)(h2:n≤256):ofB n=true:=by unfold ofB;simp;omega
theorem alq(n:Int)(h:n<1∨256<n):ofB n=false:=by unfold ofB;simp;omega
theorem ail:words 31=256:=by decide
def cells(k:Int):Int:=if 0≤k∧k<32 then 512/words k else 0
theorem ajW(k:Int)(h:k<0∨32≤k):cells k=0:=by unfold cells;rw[if_neg Y]
theorem aaZ(k:Int)(h:0≤k)(h2:k<32):cells k=512/words k:=by unfold cells;rw[if_pos ⟨h,h2⟩]
theorem Xx(k:Int):0≤cells k∧cells k≤256:=by
 unfold cells;split
 ·rename_i h
  have:=Gt k h.1 h.2
  refine⟨PV Y Y,?_⟩
  have h3:512/words k<257:=(Int.ediv_lt_iff_lt_mul (show 0<words k by omega)).2 Y
  omega
 ·omega
theorem ahE(k n:Int)(h:0≤k)(h2:k<32)(hn:0≤n):(n+1)*words k≤512↔n<cells k:=by
 have hp:=Gt k h h2
 rw[aaZ k h h2]
 constructor
 ·intro hh
  have:=(KW (show 0<words k by omega)).2 hh
  omega
 ·intro hh
  exact(KW (show 0<words k by omega)).1 Y
def size(p d:Int):Int:=if p<0∨p>63∨d<0∨d>16384 then 0 else 1+p+d
def Ia(k:Int):Bool:=decide (0≤k∧k<32)
theorem F7(k:Int)(h:0≤k)(h2:k<32):Ia k=true:=by unfold Ia;simp;omega
theorem Jo(k:Int)(h:k<0∨32≤k):Ia k=false:=by unfold Ia;simp;omega
def Ll(n j:Int):Prop:=∀i:Int,0≤i→i<j→words i<n
theorem Ll.zero(n:Int):Ll n 0:=fun i a b=>by omega
theorem Ll.succ{n j:Int}(h:Ll n j)(hj:words j<n):Ll n (j+1):=fun i a b=>by
 by_cases hi:i<j
 ·exact h i a hi
 ·obtain rfl:i=j:=Y
  exact hj
theorem Ll.up{n j m:Int}(h:words m<n)(hm:m<32):Ll n (m+1):=fun i a b=>by
 have:=ahG i m a Y hm
 omega
theorem Ll.least{n j:Int}(h:Ll n j)(h0:0≤j)(h1:j<32)(h2:n≤words j):Least n j:=⟨h0,h1,h2,h⟩
def aaI(p d:Int):Int:=if p<0∨p>63∨d<0∨d>16384 then 5 else 0
theorem QG(p d:Int)(h:p<0∨p>63∨d<0∨d>16384):size p d=0∧aaI p d=5:=by unfold size aaI;rw[if_pos h,if_pos h];exact⟨rfl,rfl⟩
theorem Ns(p d:Int)(h1:0≤p)(h2:p≤63)(h3:0≤d)(h4:d≤16384):size p d=1+p+d∧aaI p d=0:=by unfold size aaI;rw[if_neg Y,if_neg Y];exact⟨rfl,rfl⟩
theorem ZT(p d:Int):0≤size p d∧size p d≤16448:=by unfold size;split<;>omega
end Cl
end
section
section
open Go.RowKit
theorem asG:∀v∈(Cl.szs.map (Value.int .i64)).toArray.toList,v.oneCell'=true:=by
 intro v hv
 obtain⟨z,_,rfl⟩:=DN.1 (by simpa using hv)
 rfl
theorem akI:(prog.info? 203).isSome=true:=by kernel_rfl
theorem ai'(w:World):Calls prog 247 #[] w fun e w'=>e= .returned Cl.SZ∧Below w.heap.size w w':=by
 obtain⟨i32,asD⟩:=I4.1 akI
 go_enter func247,Tryz.ntmps247
 go_wp2_with (refine wpList_store_row (P:=prog) rfl 203 (.tmp 0) (.tmp 1) rfl w.heap.size _ (Cl.szs.map (Value.int .i64)).toArray 203 rfl rfl (heap_alloc_new w _) rfl asD Aw asG ?_)
 exact bodyPost_ret (v:=Cl.SZ) (results_cell_row rfl _ _ w.heap.size 203 (Cl.szs.map (Value.int .i64)).toArray (0,0) _ rfl (setRow_heap _ _ _ _ _ _ (heap_alloc_new w _)) underlying203 rfl Aw) rfl ⟨rfl,below_setRow ((Below.refl _ _).alloc (BF _) _) (BF _) _⟩
theorem Jl(k:Int)(w:World)(h1: -9223372036854775808≤k)(h2:k≤9223372036854775807):Calls prog 197 #[.int .i64 k] w fun e w'=>e= .returned (.bool (Cl.Ia k))∧w=w':=by
 by_cases c1:k<0
 ·have e:=Lib.hid (Cl.Jo k (.inl c1))
  go_enter func197,Tryz.ntmps197
  go_wp2
  go_ret
  exact⟨FN e.out.symm,rfl⟩
 ·by_cases c2:k<32
  ·have e:=Lib.hid (Cl.F7 k Y c2)
   go_enter func197,Tryz.ntmps197
   go_wp2
   go_ret
   exact⟨FN (by rw[e.out]),rfl⟩
  ·have e:=Lib.hid (Cl.Jo k (.inr Y))
   go_enter func197,Tryz.ntmps197
   go_wp2
   go_ret
   exact⟨FN (by rw[e.out]),rfl⟩
theorem Qy(k:Int)(w:World)(h1: -9223372036854775808≤k)(h2:k≤9223372036854775807):Calls prog 198 #[.int .i64 k] w fun e w'=>e= .returned (.int .i64 (Cl.words k))∧Below w.heap.size w w':=by
 by_cases c:0≤k∧k<32
 ·obtain⟨c1,c2⟩:=c
  have hr:=Cl.F7 k c1 c2
  obtain⟨i0,hi0,_,_,_⟩:=info_parts afS
  have hx:∀W,(Instr.index 203 Cl.SZ (.int .i64 k)).run prog W= .ok (.int .i64 (Cl.words k)) W:=fun W=>
   U4 W underlying203 underlying3 Aw hi0 _ _ _ _ c1 c2 (Cl.at1 k c1 c2)
  clear hi0
  go_enter func198,Tryz.ntmps198
  go_wp2_with (first
   |(go_at_call 247;refine(ai' _).mono ?_;rintro e w1 ⟨rfl,hb⟩)
   |(go_at_call 197;refine(Jl _ _ Y Y).mono ?_;rintro e w' ⟨rfl,rfl⟩))
  go_ret
  exact⟨rfl,hb⟩
 ·have e:=Lib.hid (Cl.ajw k Y)
  have hr:=Cl.Jo k Y
  go_enter func198,Tryz.ntmps198
  go_wp2_with (first
   |(go_at_call 197;refine(Jl _ _ Y Y).mono ?_;rintro e w' ⟨rfl,rfl⟩))
  go_ret
  exact⟨FK e.out.symm,Below.refl _ _⟩
theorem ae9(w:World):Calls prog 246 #[] w fun e w'=>e= .returned (.int .i64 256)∧Below w.heap.size w w':=by
 have h31:=Cl.ail
 go_enter func246,Tryz.ntmps246
 go_wp2_with (first
  |(go_at_call 198;refine(Qy _ _ Y Y).mono ?_;rintro e w1 ⟨rfl,hb⟩))
 go_ret
 exact⟨FK (by first|rfl|exact h31),hb⟩
theorem YB(k:Int)(w:World)(h1: -9223372036854775808≤k)(h2:k≤9223372036854775807):Calls prog 131 #[.int .i64 k] w fun e w'=>e= .returned (.int .i64 (Cl.cells k))∧Below w.heap.size w w':=by
 by_cases c:0≤k∧k<32
 ·obtain⟨c1,c2⟩:=c
  have hr:=Cl.F7 k c1 c2
  have hp:=Cl.Gt k c1 c2
  have hbd:=Cl.U8 k
  have e:=Lib.hid (Cl.aaZ k c1 c2)
  go_enter func131,Tryz.ntmps131
  go_wp2_with (first
   |(go_at_call 198;refine(Qy _ _ Y Y).mono ?_;rintro e w1 ⟨rfl,hb⟩)
   |(go_at_call 197;refine(Jl _ _ Y Y).mono ?_;rintro e w' ⟨rfl,rfl⟩))
  go_ret
  exact⟨FK e.out.symm,hb⟩
 ·have e:=Lib.hid (Cl.ajW k Y)
  have hr:=Cl.Jo k Y
  go_enter func131,Tryz.ntmps131
  go_wp2_with (first
   |(go_at_call 197;refine(Jl _ _ Y Y).mono ?_;rintro e w' ⟨rfl,rfl⟩))
  go_ret
  exact⟨FK e.out.symm,Below.refl _ _⟩
end
end
section
section
open Go.RowKit
theorem aqG(n:Int)(w:World)(h1: -9223372036854775808≤n)(h2:n≤9223372036854775807):Calls prog 196 #[.int .i64 n] w fun e w'=>e= .returned (.tuple #[.int .i64 (Cl.Yo n),.bool (Cl.ofB n)])∧Below w.heap.size w w':=by
 by_cases c1:n<1
 ·have e:=Lib.hid (Cl.adX n (.inl c1))
  have e2:=Lib.hid (Cl.alq n (.inl c1))
  go_enter func196,Tryz.ntmps196
  go_wp2_with fail
  go_ret2
  exact⟨Ut e.out.symm e2.out.symm,Below.refl _ _⟩
 ·by_cases c2:256<n
  ·have e:=Lib.hid (Cl.adX n (.inr c2))
   have e2:=Lib.hid (Cl.alq n (.inr c2))
   go_enter func196,Tryz.ntmps196
   go_wp2_with fail
   refine(ae9 _).mono ?_
   rintro e w1 ⟨rfl,hb⟩
   go_wp2_with fail
   go_ret2
   exact⟨Ut e.out.symm e2.out.symm,hb⟩
  ·have hle:=Lib.hid (Cl.Tf n Y Y)
   have e2:=Lib.hid (Cl.ank n Y Y)
   have h31:=Cl.ail
   go_enter func196,Tryz.ntmps196
   go_wp2_with fail
   refine(ae9 _).mono ?_
   rintro e w1 ⟨rfl,hb⟩
   go_wp2_with fail
   go_loopw [4,5,6] (fun a b _c wr=>∃lo hi:Int,0≤lo∧lo≤hi∧hi≤31∧a= .int .i64 lo∧b= .int .i64 hi∧Cl.Ll n lo∧n≤Cl.words hi∧Below w.heap.size w wr) (fun a b _ _=>(intOf b-intOf a).toNat)
   case atStart=>exact⟨0,31,Y,Y,Y,rfl,rfl,Cl.Ll.zero n,Y,hb⟩
   case round=>
    obtain⟨lo,hi,r1,r2,r3,rfl,rfl,hall,hhi,hbe⟩:=hrel
    have hsz:=hbe.size
    by_cases hlt:lo<hi
    ·obtain⟨m,hm⟩:∃m,(lo+hi)/2=m:=⟨_,rfl⟩
     have m1:lo≤m:=Y
     have m2:m<hi:=Y
     by_cases hw:n≤Cl.words m
     ·go_wp2_with (first
       |(go_at_call 198;refine(Qy _ _ Y Y).mono ?_;rintro e w2 ⟨rfl,hb2⟩))
      go_roundw
      case rel=>exact⟨lo,m,Y,Y,Y,rfl,rfl,hall,hw,hbe.trans (hb2.mono hsz)⟩
      case measure=>simp[intOf];omega
     ·have hup:=Cl.Ll.up (j:=0) (show Cl.words m<n by omega) (show m<32 by omega)
      go_wp2_with (first
       |(go_at_call 198;refine(Qy _ _ Y Y).mono ?_;rintro e w2 ⟨rfl,hb2⟩))
      go_roundw
      case rel=>exact⟨m+1,hi,Y,Y,Y,rfl,rfl,hup,hhi,hbe.trans (hb2.mono hsz)⟩
      case measure=>simp[intOf];omega
    ·obtain rfl:lo=hi:=Y
     have hq:=Lib.hid (hle.out.unique (hall.least r1 Y hhi))
     go_wp2_with fail
     go_ret2
     exact⟨Ut hq.out.symm e2.out.symm,hbe⟩
theorem size_any(p d:Int)(w:World)(h1: -9223372036854775808≤p)(h2:p≤9223372036854775807)(h3: -9223372036854775808≤d)(h4:d≤9223372036854775807):
 Calls prog 215 #[.int .i64 p,.int .i64 d] w fun e w'=>e= .returned (.tuple #[.int .i64 (Cl.size p d),.int .i64 (Cl.aaI p d)])∧w=w':=by
 by_cases c1:p<0
 ·have e:=Lib.hid (Cl.QG p d (.inl c1))
  go_enter func215,Tryz.ntmps215
  go_wp2_with fail
  go_ret2
  exact⟨abe e.out.1.symm e.out.2.symm,rfl⟩
 ·by_cases c2:p>63
  ·have e:=Lib.hid (Cl.QG p d (.inr (.inl c2)))
   go_enter func215,Tryz.ntmps215
   go_wp2_with fail
   go_ret2
   exact⟨abe e.out.1.symm e.out.2.symm,rfl⟩
  ·by_cases c3:d<0
   ·have e:=Lib.hid (Cl.QG p d (.inr (.inr (.inl c3))))
    go_enter func215,Tryz.ntmps215
    go_wp2_with fail
    go_ret2
    exact⟨abe e.out.1.symm e.out.2.symm,rfl⟩
   ·by_cases c4:d>16384
    ·have e:=Lib.hid (Cl.QG p d (.inr (.inr (.inr c4))))
     go_enter func215,Tryz.ntmps215
     go_wp2_with fail
     go_ret2
     exact⟨abe e.out.1.symm e.out.2.symm,rfl⟩
    ·have e:=Lib.hid (Cl.Ns p d Y Y Y Y)
     go_enter func215,Tryz.ntmps215
     go_wp2_with fail
     go_ret2
     exact⟨abe e.out.1.symm e.out.2.symm,rfl⟩
end
end
end Go.Proofs.YtppilhpcmkekbaaGreat
