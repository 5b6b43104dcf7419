/- Parts of the proof. -/
import Derived.Test.YtppilhpcmkekbaaGreatKTopImagesp
set_option linter.unusedSimpArgs false
set_option linter.unusedVariables false
set_option linter.unusedSectionVars false
set_option maxRecDepth 100000
set_option maxHeartbeats 16000000
namespace Go.Proofs.YtppilhpcmkekbaaGreat
open Go.Proofs.Tryz
section
section
open Go.RowKit
section
variable{g:Geo}{d:Nv.D}{s:JZ}{pH pS b c:Nat}{A:Option Addr}{l:List Bool}{w:World}
theorem Ib.len2{b:Nat}{A:Option Addr}{c:Nat}{l l':List Bool}(h:Ib b A c l)(e:l'.length=l.length):Ib b A c l':=
 ⟨by rw[show Bm.nw l'=Bm.nw l from by unfold Bm.nw;rw[e]];exact h.row,by rw[e];exact h.len⟩
structure aw1 (d:Nv.D) (s:JZ) (l l1:List Bool) (a:Int) (op:List Int):Prop where
 len:l1.length=l.length
 up:∀x,Gz l x=true→Gz l1 x=true
 got:a∈op∨(Gz s.U a=true→a<l.length→Gz l1 a=true)
 cl:∀P,Shut d s P→P a→(∀y∈op,P y)∧∀x,Gz l1 x=true→Gz l x=true∨(P x∧Gz s.U x=true)
theorem aqd(hE:DW [grp (alE g d s),grp (hdE s.pA pH pS b A c l)] w)(hW:Ob.SQ d.cache)(hl:d.cache.length≤1000000000)(hU:Ib s.bU s.AU s.cU s.U)(hh:∀a,Gz s.U a=true→Ob.hd d.cache a=true)(hs:Ib b A c l)(a:Int)(ha:RI a):
 Calls prog 122 [ptr pH,.int .i64 a].toArray w fun e w'=>∃(l':List Bool) (z:Int),Ot d s l l' [a]∧e= .returned (.int .i64 z)∧Heap w (ids (hdE s.pA pH pS b A c l)) (hdE s.pA pH pS b A c l') w':=by
 have hDO:=fun{W:World} (h:Only (ids (hdE s.pA pH pS b A c l)) w W)=>Heap.start (hE.off h)
 have H:Heap w (ids (hdE s.pA pH pS b A c l)) [blk pH [ptr s.pA,pt pS] 191,grp (JJ pS b A c l)] w:=Heap.start hE.snd
 generalize hI:ids (hdE s.pA pH pS b A c l)=I at*
 have hLn:=fun{W:World} hE=>auF (p:=pS) (b:=b) (A:=A) (c:=c) (l:=l) W hE
 have hc0:=Bm.cnt_le l
 have hlen:=hs.len
 refine BM 67 func122 O (Aw (AQ O (uX ?_)))
 refine BR O Uz (BD H 0 O O O PN (BI H O (hLn (H.Bl 1 O)) (aqI O) fun W1 H=>oG ?_))
 refine sF ?_
 intro q16 _ H';clear H;have H:=H';clear H'
 refine En O (Au (AP (E8 (Ec (fun z f W=>∃(l1:List Bool) (op:List Int) (OA:Option Addr) (oc:Nat),aw1 d s l l1 a op∧(∀y∈op,RI y)∧z=64*(l1.length-Bm.cnt l1)+op.length∧z≤64*131072+1∧f 0=ptr pH∧f 5= .int .i64 (Bm.cnt l:Nat)∧f 6= .slice OA op.length oc∧Heap w I [Dw 1 (.slice OA op.length oc) op.length (op.map (Value.int .i64)) 3,blk pH [ptr s.pA,pt pS] 191,grp (JJ pS b A c l1)] W) (64*(l.length-Bm.cnt l)+1) ⟨l,[a],_,_,⟨rfl,fun _ h=>h,.inl J,fun P hP h=>⟨by simpa using h,fun _ h=> .inl h⟩⟩,by simpa using ha,rfl,Y,rfl,rfl,rfl,H⟩ ?_))))
 clear H
 rintro z f W ⟨l1,op,OA,oc,hin,hop,hz,hzb,f0,f5,f6,H⟩
 replace hz:=hz.symm
 subst hz
 obtain⟨f,rfl⟩:=OE f0 f5 f6
 clear f0 f5 f6
 have hs1:=hs.len2 hin.len
 have hc1:=Bm.cnt_le l1
 have hl1:=hin.len
 by_cases h0:op.length=0
 ·have ayl:=fun{W:World} hE=>auF (p:=pS) (b:=b) (A:=A) (c:=c) (l:=l1) W hE
  obtain rfl:op=[]:=List.length_eq_zero_iff.1 h0
  refine kM ?_
  refine AL (ER O O Y) (Au (dw ?_))
  refine eY ?_
  refine BR O Uz (BD H 1 O O O PN (BI H O (ayl (H.Bl 2 O)) (aqI O) fun W1 H=>Az O (AL (FH O O O) (fH ?_))))
  exact⟨l1,_,⟨hin.len,hin.up,fun x hx=>by
   rw[Bf.1 hx]
   exact hin.got.resolve_left J,fun P hP h=>(hin.cl P hP (h a J)).2⟩,rfl,H.drop⟩
 ·obtain⟨y,hy⟩:∃y,op[op.length-1]? =some y:=⟨_,Ar Y⟩
  have hym:=A8 hy
  have hyb:=hop y hym
  have asf:∀y∈op.take (op.length-1),RI y:=fun y hy=>hop y (G7 hy)
  have hpl:(op.take (op.length-1)).length=op.length-1:=by rw[Dy];omega
  have hap:op=op.take (op.length-1)++ [y]:=by
   rw[Jc hy,show op.length-1+1=op.length by omega,DL]
  obtain⟨q,rfl⟩:=H.JC 0 rfl h0
  have hcap:=Yw H 0 rfl
  have hUs:=fun{W:World} hE=>ahx (g:=g) (s:=s) (w:=W) hE hU y
  have hAd:=fun{W:World} hE=>anR (p:=pS) hs1 W hE y
  have hPt:=fun{W:World} hE=>amD (g:=g) (d:=d) (w:=W) hE hW hl y
  generalize hT:op.take (op.length-1)=T at*
  refine kM ?_
  refine AL (Jl O O Y) (x9 ?_)
  refine Aw (CY O (CY O (eU ?_)))
  refine nK ?_
  refine AL (FC (i:=(op.length-1)) O O Y Y underlying22 Kz) (AL (L9 H 0 O O hy GU) (nG ?_))
  refine CY O (CY O (eU ?_))
  refine nK ?_
  refine AL (Y1 (j:=op.length-1) O O Y Y underlying22 Kz) (En O (Au (AP (AP ?_))))
  replace H:=H.adV (m:=op.length-1) 0 rfl Y
  rw[Jh,←NU,hT]at H
  simp only[Bv]at H
  have hTl:T.length=op.length-1:=hpl
  have hpop:∀P,Shut d s P→P a→(∀x∈T,P x)∧∀x,Gz l1 x=true→Gz l x=true∨(P x∧Gz s.U x=true):=fun P hP h=>
   ⟨fun x hx=>(hin.cl P hP h).1 x (by rw[hap];exact BQ _ hx),(hin.cl P hP h).2⟩
  cases hu:Gz s.U y with
  |false=>
   rw[hu]at hUs
   rw[←hTl]at H
   refine sN ?_
   refine BR O aax (BD H 1 O O O Om (Az O (BI H O (hUs (hDO H.only).drop.ents) (aaI O) fun W1 H=>AL (Jm O) (BL O (Cc 38 O O (Cc 38 O O (Cc 38 O O (Cc 38 O O (Cc 38 O O (Cc 38 O O (Cc 38 O O (ED O O ?_))))))))))))
   refine Au (EI O (DZ (Cb (EG (CU ?_)))))
   refine⟨_,_,?_,rfl,l1,T,some ⟨q,0,none⟩,oc,⟨hin.len,hin.up,?_,hpop⟩,asf,rfl,Y,rfl,rfl,(by rw[hTl];rfl),H⟩
   ·omega
   ·rcases hin.got with h|h
    ·rw[hap]at h
     rcases BJ.1 h with h|h
     ·exact .inl h
     ·rw[Bf.1 h,hu]
      exact .inr fun h=>absurd h J
    ·exact .inr h
  |true=>
   rw[hu]at hUs
   have hyU:=Za hu
   cases hq:(decide (0≤y∧y<l1.length)&& !Bm.has l1 y)with
   |false=>
    rw[hq]at hAd
    rw[←hTl]at H
    refine sN ?_
    refine BR O aax (BD H 1 O O O Om (Az O (BI H O (hUs (hDO H.only).drop.ents) (aaI O) fun W1 H=>AL (EM O) (BL O (oK ?_)))))
    rintro e W1 ⟨rfl,H'⟩
    refine⟨_,rfl,?_⟩
    have H:=H.DN 2 rfl H';clear H';simp only[Bv]at H
    refine AX 38 O (Jm O) (Dp O O (Au (EI O (DZ (Cb (EG (CU ?_)))))))
    have hput:Bm.put l1 y true=l1:=by
     by_cases hr:0≤y∧y<l1.length
     ·obtain⟨i,rfl⟩:=Bo hr.1
      rw[decide_eq_true hr,GL]at hq
      rw[Bm.VB true Y]
      exact Bm.set_self Y (by rw[←Bm.aa6];simpa using hq)
     ·exact Bm.V9 true hr
    rw[hput]at H
    refine⟨_,_,?_,rfl,l1,T,some ⟨q,0,none⟩,oc,⟨hin.len,hin.up,?_,hpop⟩,asf,rfl,Y,rfl,rfl,(by rw[hTl];rfl),H⟩
    ·omega
    ·rcases hin.got with h|h
     ·rw[hap]at h
      rcases BJ.1 h with h|h
      ·exact .inl h
      ·rw[Bf.1 h]
       refine .inr fun _ hlt=>?_
       rw[decide_eq_true ⟨hyU.1,Y⟩,GL]at hq
       show Bm.has l1 y=true
       simpa using hq
     ·exact .inr h
   |true=>
    rw[hq]at hAd
    simp only[FV,decide_eq_true_eq,Bool.not_eq_true']at hq
    obtain⟨hr,hno⟩:=hq
    have hpb:=Ob.aaj hW y
    have awT:=fun{W:World} hE=>hPt (W:=W) hE (hh y hu)
    have hll:(Ob.ptrs d.cache y).length≤63:=by
     unfold Ob.ptrs;rw[Ob.Oe];have:=Ob.NG hW y;omega
    have WM:=fun{W:World} hE=>X4 (g:=g) (s:=s) (w:=W) hE
    obtain⟨hcn,hpn⟩:Bm.cnt (Bm.put l1 y true)=Bm.cnt l1+1∧∀x,Gz (Bm.put l1 y true) x=if y=x then true else Gz l1 x:=by
     refine⟨?_,fun x=>Bm.XZ l1 y x true hr⟩
     obtain⟨i,rfl⟩:=Bo hr.1
     rw[Bm.VB true Y]
     exact Bm.amr l1 i Y (by rw[←Bm.aa6];exact hno)
    have hc2:=Bm.cnt_le (Bm.put l1 y true)
    have hl2:=Bm.Yp l1 y true
    generalize Bm.put l1 y true=l2 at*
    generalize hPL:Ob.ptrs d.cache y=pl at*
    refine sN ?_
    refine BR O aax (BD H 1 O O O Om (Az O (BI H O (hUs (hDO H.only).drop.ents) (aaI O) fun W1 H=>AL (EM O) (BL O (oK ?_)))))
    rintro e W1 ⟨rfl,H'⟩
    refine⟨_,rfl,?_⟩
    have H:=H.DN 2 rfl H';clear H';simp only[Bv]at H
    refine AX 38 O (EM O) (fE ?_)
    refine eY ?_
    refine BR O aax (BD H 1 O O O Om (BI H O (WM (hDO H.only).drop.ents) (QX O) fun W1 H=>Az O (s_call O (awT ((hDO H.only).Bl 0 O)) (aqG O) ?_)))
    rintro e W1 ⟨QA,qc,rfl,H'⟩
    refine⟨_,rfl,?_⟩
    have H:=H.more H';clear H';simp only[Bv]at H
    refine kG ?_
    refine En O (AQ O (Au (DR (CY O (CY O (nD ?_))))))
    clear H;intro A2 c2 _ H;simp only[Bv,Nat.reduceAdd]at H
    refine En O (AA (Dh (CU ?_)))
    have hTp:(T++pl).length=T.length+pl.length:=Cm
    rw[←hTl,←hTp]at H
    refine⟨_,_,?_,rfl,l2,T++pl,A2,c2,⟨Y,fun x hx=>?_,?_,fun P hP h=>?_⟩,fun x hx=>?_,rfl,?_,rfl,rfl,?_,H⟩
    ·omega
    ·rw[hpn];split
     ·rfl
     ·exact hin.up x hx
    ·rcases hin.got with h|h
     ·rw[hap]at h
      rcases BJ.1 h with h|h
      ·exact .inl (BQ _ h)
      ·rw[Bf.1 h]
       exact .inr fun _ _=>by rw[hpn,if_pos rfl]
     ·refine .inr fun h1 h2=>?_
      rw[hpn]
      split
      ·rfl
      ·exact h h1 h2
    ·have hy2:=(hin.cl P hP h).1 y hym
     refine⟨fun x hx=>?_,fun x hx=>?_⟩
     ·rcases BJ.1 hx with h1|h1
      ·exact(hpop P hP h).1 x h1
      ·exact hP y hy2 hu x (by rw[hPL];exact h1)
     ·rw[hpn]at hx
      split at hx
      ·rename_i e;subst e;exact .inr ⟨hy2,hu⟩
      ·exact(hpop P hP h).2 x hx
    ·rcases BJ.1 hx with h1|h1
     ·exact asf x h1
     ·have:=hpb x h1;exact⟨Y,Y⟩
    ·omega
    ·rw[hTp,hTl];rfl
theorem aea(hE:DW [grp (alE g d s),grp (hdE s.pA pH pS b A c l)] w)(hW:Ob.SQ d.cache)(hl:d.cache.length≤1000000000)(hU:Ib s.bU s.AU s.cU s.U)(hh:∀a,Gz s.U a=true→Ob.hd d.cache a=true)(hs:Ib b A c l)(LA:Option Addr)(n lc:Nat)(xs:List Int)(hS:Gm (Value.int .i64) w (ids (hdE s.pA pH pS b A c l)) LA xs)(hx:xs.length=n)(hn:n≤1000000)(hi:∀x∈xs,RI x):
 Calls prog 56 [ptr pH,.slice LA n lc].toArray w fun e w'=>∃l':List Bool,Ot d s (List.replicate l.length false) l' xs∧e= .returned (.tuple #[])∧Heap w (ids (hdE s.pA pH pS b A c l)) (hdE s.pA pH pS b A c l') w':=by
 have hDO:=fun{L:List Fp} {W:World} (H:Heap w (ids (hdE s.pA pH pS b A c l)) L W)=>hE.on H
 have H:Heap w (ids (hdE s.pA pH pS b A c l)) [blk pH [ptr s.pA,pt pS] 191,grp (JJ pS b A c l)] w:=Heap.start hE.snd
 generalize hI:ids (hdE s.pA pH pS b A c l)=I at*
 have hCl:=fun{W:World} hE=>as5 (p:=pS) (b:=b) (A:=A) (c:=c) (l:=l) hs W hE
 refine BM 21 func56 O (eY ?_)
 refine BR O Uz (BD H 0 O O O PN (s_call O (hCl (H.Bl 1 O)) (auK O) ?_))
 rintro e W1 ⟨rfl,H'⟩
 refine⟨_,rfl,?_⟩
 have H:=H.DN 1 rfl H';clear H';simp only[Bv]at H
 refine Au (Aw (CY O (eU ?_)))
 refine tV ?_
 replace H:Heap w I [grp (hdE s.pA pH pS b A c (List.replicate l.length false))] _:=Hw H
 have hs0:Ib b A c (List.replicate l.length false):=hs.len2 (by rw[CV])
 generalize List.replicate l.length false=l0 at*
 refine Ec (fun z f W=>∃(i:Nat) (l1:List Bool),i≤n∧z=n-i∧Ot d s l0 l1 (xs.take i)∧f 0=ptr pH∧f 11= .slice LA n lc∧f 12= .int .i64 n∧f 13= .int .i64 i∧Heap w I [grp (hdE s.pA pH pS b A c l1)] W) n ⟨0,l0,Y,rfl,Ot.nil d s l0,rfl,rfl,rfl,rfl,H⟩ ?_
 clear H
 rintro z f W ⟨i,l1,hi1,rfl,hst,f0,f11,f12,f13,H⟩
 obtain⟨f,rfl⟩:=Ih f0 f11 f12 f13
 clear f0 f11 f12 f13
 by_cases hlt:i<n
 ·obtain⟨x,hx1⟩:∃x,xs[i]? =some x:=⟨_,Ar Y⟩
  have hxi:=hi x (A8 hx1)
  obtain⟨q,o,rfl,hqI,hrd⟩:=hS Y
  have cx:=hrd _ _ hx1
  have hAd:=fun{W:World} hE=>aqd (g:=g) (d:=d) (s:=s) (w:=W) (pH:=pH) (pS:=pS) (b:=b) (A:=A) (c:=c) (l:=l1) hE hW hl hU hh (hs0.len2 hst.len) x hxi
  refine gW ?_
  refine AL (Hq H O cx hqI GU) (AQ O (Au (DR (BF O (Az O (s_call O (hAd (hDO H)) (aqs O) ?_))))))
  rintro e W1 ⟨l2,z2,hst2,rfl,H'⟩
  refine⟨_,rfl,?_⟩
  have H:=H.DN 0 rfl H';clear H';simp only[Bv]at H
  refine vG ?_
  refine⟨_,_,?_,rfl,i+1,l2,Y,rfl,?_,rfl,rfl,rfl,rfl,H⟩
  ·omega
  ·rw[←Jc hx1];exact hst.app hst2
 ·obtain rfl:i=n:=Y
  rw[show xs.take i=xs by rw[←hx];exact DL]at hst
  refine aF ?_
  refine fin0 O ?_
  exact⟨l1,hst,rfl,Iw H⟩
end
end
end
section
section
open Go.RowKit
theorem afj{xs:List Int}(h:Im.U xs):Ints .u64 xs:=fun z hz=>wf_u64 (h z hz)
theorem anU(a b:List Int)(w:World)(la:a.length=16)(lb:b.length=16)(ha:Im.U a)(hb:Im.U b):
 Calls prog 135 [.agg (a.map (Value.int .u64)).toArray,.agg (b.map (Value.int .u64)).toArray].toArray w fun e w'=>e= .returned (.tuple #[.agg (.int .u64 (chE a b)::(chR a b).map (Value.int .i64)).toArray,.int .i64 (chI a b),.bool (chB a b)])∧Only [] w w':=by
 have dA:=fun w=>(adg a w la (afj ha)).mono fun _ _ h=>(⟨h.1,Only.of_below h.2 []⟩:_∧Only [] _ _)
 have dB:=fun w=>(adg b w lb (afj hb)).mono fun _ _ h=>(⟨h.1,Only.of_below h.2 []⟩:_∧Only [] _ _)
 obtain⟨x0,x1,x2,x3,x4,x5,x6,x7,hx⟩:=O3 (aas a la)
 obtain⟨y0,y1,y2,y3,y4,y5,y6,y7,hy⟩:=O3 (aas b lb)
 rw[hx]at dA
 rw[hy]at dB
 have H:=Heap.nil w
 have h0:∀k,U2 a b=k→chI a b=(if k=1 then 1 else 0)∧chB a b=decide (k≠-1):=fun k h=>by rw[←h];exact⟨rfl,rfl⟩
 by_cases ca:dC a=0
 ·by_cases hk:dC b≠0∨XG b≤XG a
  ·have k:U2 a b=0:=by unfold U2;rw[if_pos ⟨ca,hk⟩]
   rw[(ch0 k).1,(ch0 k).2,hx,(h0 0 k).1,(h0 0 k).2]
   rw[ca]at dA
   generalize XG a=E at*
   generalize XG b=E2 at*
   generalize dC b=C at*
   by_cases cb:C=0
   ·subst cb
    have ce:E2≤E:=hk.resolve_left J
    refine BM 41 func135 O (Aw (DU H O O fun p2 _ H=>DU H O O fun p3 _ H=>Ea H O IX fun p4 _ H=>qJ ?_))
    refine BI H O (dA _) (Xd O) fun W1 H=>aO ?_
    refine Ea H O IX fun p7 _ H=>jY ?_
    clear H;refine ayJ fun _ H=>?_
    refine oO ?_
    refine BI H O (dB _) (Xd O) fun W1 H=>aO ?_
    refine Ea H O IX fun p9 _ H=>jY ?_
    clear H;refine ayJ fun _ H=>?_
    refine mJ ?_
    refine AX 27 O (G8 O O Y) (AX 24 O (Ku (v:= .bool _) O O) (ED O O (BN O (ql ?_))))
    refine Dn H 1 O O O PW GY (Eh H 2 O O O O O O O GY ?_)
    clear H;refine ayJ fun _ H=>?_
    refine xg ?_
    exact⟨rfl,H.only⟩
   ·refine BM 41 func135 O (Aw (DU H O O fun p2 _ H=>DU H O O fun p3 _ H=>Ea H O IX fun p4 _ H=>qJ ?_))
    refine BI H O (dA _) (Xd O) fun W1 H=>aO ?_
    refine Ea H O IX fun p7 _ H=>jY ?_
    clear H;refine ayJ fun _ H=>?_
    refine oO ?_
    refine BI H O (dB _) (Xd O) fun W1 H=>aO ?_
    refine Ea H O IX fun p9 _ H=>jY ?_
    clear H;refine ayJ fun _ H=>?_
    refine kU ?_
    refine AL (Fv O O Y) (BL O (AX 24 O (Fz O) (AX 24 O (Hl O O Y) (AX 24 O (WU O) (Cc 27 O O (Cc 27 O O (Cc 27 O O (Cc 27 O O (Cc 27 O O (AX 24 O (HY (v:= .bool _) O O) (ED O O (BN O (ql ?_)))))))))))))
    refine Dn H 1 O O O PW GY (Eh H 2 O O O O O O O GY ?_)
    clear H;refine ayJ fun _ H=>?_
    refine xg ?_
    exact⟨rfl,H.only⟩
  ·have cb:dC b=0:=by by_cases h:dC b=0;exact h;exact absurd (.inl h) hk
   have k:U2 a b=1:=by unfold U2;rw[if_neg (fun h=>hk h.2),if_pos cb]
   rw[(ch1 k).1,(ch1 k).2,hy,(h0 1 k).1,(h0 1 k).2]
   have ce:XG a<XG b:=Int.not_le.1 fun h=>hk (.inr h)
   rw[ca]at dA
   rw[cb]at dB
   generalize XG a=E at*
   generalize XG b=E2 at*
   refine BM 41 func135 O (Aw (DU H O O fun p2 _ H=>DU H O O fun p3 _ H=>Ea H O IX fun p4 _ H=>qJ ?_))
   refine BI H O (dA _) (Xd O) fun W1 H=>aO ?_
   refine Ea H O IX fun p7 _ H=>jY ?_
   clear H;refine ayJ fun _ H=>?_
   refine oO ?_
   refine BI H O (dB _) (Xd O) fun W1 H=>aO ?_
   refine Ea H O IX fun p9 _ H=>jY ?_
   clear H;refine ayJ fun _ H=>?_
   refine mJ ?_
   refine AX 27 O (F7 O O Y) (AX 24 O (Ku (v:= .bool _) O O) (ED O O (BN O (xW ?_))))
   clear H;refine ayJ fun _ H=>?_
   refine xg ?_
   exact⟨rfl,H.only⟩
 ·by_cases cb:dC b=0
  ·have k:U2 a b=1:=by unfold U2;rw[if_neg (fun h=>ca h.1),if_pos cb]
   rw[(ch1 k).1,(ch1 k).2,hy,(h0 1 k).1,(h0 1 k).2]
   rw[cb]at dB
   generalize XG a=E at*
   generalize XG b=E2 at*
   generalize dC a=C at*
   refine BM 41 func135 O (Aw (DU H O O fun p2 _ H=>DU H O O fun p3 _ H=>Ea H O IX fun p4 _ H=>qJ ?_))
   refine BI H O (dA _) (Xd O) fun W1 H=>aO ?_
   refine Ea H O IX fun p7 _ H=>jY ?_
   clear H;refine ayJ fun _ H=>?_
   refine oO ?_
   refine BI H O (dB _) (Xd O) fun W1 H=>aO ?_
   refine Ea H O IX fun p9 _ H=>jY ?_
   clear H;refine ayJ fun _ H=>?_
   refine pR ?_
   refine xW ?_
   clear H;refine ayJ fun _ H=>?_
   refine xg ?_
   exact⟨rfl,H.only⟩
  ·have k:U2 a b= -1:=by unfold U2;rw[if_neg (fun h=>ca h.1),if_neg cb]
   rw[(chn k).1,(chn k).2,(h0 _ k).1,(h0 _ k).2]
   generalize XG a=E at*
   generalize XG b=E2 at*
   generalize dC a=C at*
   generalize dC b=C2 at*
   refine BM 41 func135 O (Aw (DU H O O fun p2 _ H=>DU H O O fun p3 _ H=>Ea H O IX fun p4 _ H=>qJ ?_))
   refine BI H O (dA _) (Xd O) fun W1 H=>aO ?_
   refine Ea H O IX fun p7 _ H=>jY ?_
   clear H;refine ayJ fun _ H=>?_
   refine oO ?_
   refine BI H O (dB _) (Xd O) fun W1 H=>aO ?_
   refine Ea H O IX fun p9 _ H=>jY ?_
   clear H;refine ayJ fun _ H=>?_
   refine pR ?_
   refine Au (DX O (Aw (Az O (AL (Fb O O Y) (uQ ?_)))))
   refine Aw (AL (FP (atH) O) (Eh H 2 O O O O O O O GY ?_))
   clear H;refine ayJ fun _ H=>?_
   refine AQ O (BN O (Au (BH (iP ?_))))
   exact⟨rfl,H.only⟩
def MP(gp:Nat)(E:Int)(R:List Int)(k:Int)(V:List Int):List Value:=ptr gp:: .int .u64 E::(R.map (Value.int .i64)++(.int .i64 k::V.map (Value.int .i64)))
theorem aeR(gp:Nat)(E r0 r1 r2 r3 r4 r5 r6 r7 k v0 v1 v2 v3 v4 v5 v6 v7:Int):MP gp E [r0,r1,r2,r3,r4,r5,r6,r7] k [v0,v1,v2,v3,v4,v5,v6,v7]=
 [ptr gp,.int .u64 E,.int .i64 r0,.int .i64 r1,.int .i64 r2,.int .i64 r3,.int .i64 r4,.int .i64 r5,.int .i64 r6,.int .i64 r7,.int .i64 k,.int .i64 v0,.int .i64 v1,.int .i64 v2,.int .i64 v3,.int .i64 v4,.int .i64 v5,.int .i64 v6,.int .i64 v7]:=rfl
theorem avc(g:Geo)(d:Nv.D)(w:World)(hE:DW (Dz g d) w)(hU:Im.U d.cache):
 Calls prog 62 [ptr g.p].toArray w fun e w'=>
  (U2 (EL d.cache 64 16) (EL d.cache 128 16)= -1∧e= .returned (.tuple #[.pointer none,.int .i64 23])∧Only [] w w')∨
  (U2 (EL d.cache 64 16) (EL d.cache 128 16)≠-1∧∃t,e= .returned (.tuple #[ptr t,.int .i64 0])∧Heap w [] [blk t (MP g.p (chE (EL d.cache 64 16) (EL d.cache 128 16)) (chR (EL d.cache 64 16) (EL d.cache 128 16)) (U2 (EL d.cache 64 16) (EL d.cache 128 16)) (chR (EL d.cache 64 16) (EL d.cache 128 16))) 220] w'):=by
 have HR:=Heap.start hE
 have H:=Heap.nil w
 have hR0:=fun w hE=>apX g d 0 w hE (.inl rfl)
 have hR1:=fun w hE=>apX g d 1 w hE (.inr rfl)
 have e0:64+64*0=64:=rfl
 have e1:64+64*1=128:=rfl
 rw[e0]at hR0
 rw[e1]at hR1
 have hC:=fun w=>anU _ _ w (Ny d.cache 64 16) (Ny d.cache 128 16) (aed hU 64 16) (aed hU 128 16)
 have hl:=aoJ _ _ (Ny d.cache 64 16) (Ny d.cache 128 16)
 have hor:=aq4 (EL d.cache 64 16) (EL d.cache 128 16)
 have hI:U2 (EL d.cache 64 16) (EL d.cache 128 16)≠-1→chI (EL d.cache 64 16) (EL d.cache 128 16)=U2 (EL d.cache 64 16) (EL d.cache 128 16):=fun h=>by
  unfold chI
  rcases hor with h0|h0|h0
  ·rw[h0];rfl
  ·rw[h0];rfl
  ·exact absurd h0 h
 have hB:chB (EL d.cache 64 16) (EL d.cache 128 16)=decide (U2 (EL d.cache 64 16) (EL d.cache 128 16)≠-1):=rfl
 generalize EL d.cache 64 16=a at*
 generalize EL d.cache 128 16=b at*
 generalize chE a b=E at*
 generalize chR a b=R at*
 generalize U2 a b=K at*
 generalize chB a b=Bq at*
 generalize chI a b=I at*
 obtain⟨r0,r1,r2,r3,r4,r5,r6,r7,rfl⟩:=O3 hl
 simp only[Dx,D5]at hC
 by_cases hk:K= -1
 ·have hBf:Bq=false:=by rw[hB];simp[hk]
  subst hBf
  refine BM 25 func62 O (Aw (EX O (nV ?_)))
  refine BI H O (hR0 _ (HR.same H.only).ents) (aiK O) fun W1 H=>BF O (BI H O (hR1 _ (HR.same H.only).ents) (aiK O) fun W1 H=>BI H O (hC _) (aqD O) fun W1 H=>aO ?_)
  refine lH ?_
  refine Ea H O IX fun p4 _ H=>jY ?_
  clear H;refine ayJ fun _ H=>?_
  refine AQ O (BN O (Au (AP (Aw (BL O (AL (Jm O) (ql ?_)))))))
  refine EX O (oL ?_)
  refine dM ?_
  exact .inl ⟨hk,rfl,H.only⟩
 ·have hBt:Bq=true:=by rw[hB];simp[hk]
  subst hBt
  rw[hI hk]at hC
  refine BM 25 func62 O (Aw (EX O (nV ?_)))
  refine BI H O (hR0 _ (HR.same H.only).ents) (aiK O) fun W1 H=>BF O (BI H O (hR1 _ (HR.same H.only).ents) (aiK O) fun W1 H=>BI H O (hC _) (aqD O) fun W1 H=>aO ?_)
  refine lH ?_
  refine Ea H O IX fun p4 _ H=>jY ?_
  clear H;refine ayJ fun _ H=>?_
  refine AQ O (BN O (Au (AP (Aw (BL O (gK ?_))))))
  refine Aw (BF O (Dn H 0 O O O PW GY (Az O (BR O aiO (AL (JU H 0 (vs:=[.int .i64 r0,.int .i64 r1,.int .i64 r2,.int .i64 r3,.int .i64 r4,.int .i64 r5,.int .i64 r6,.int .i64 r7]) O O O O KU IC) (AL (FP (acj _ _ _ _ _ _ _ _ _ _ _ _ _ _ _ _ _ _ _) O) (DU H O O fun p24 _ H=>qZ ?_)))))))
  exact .inr ⟨hk,_,rfl,H.drops (A:=[_])⟩
theorem axn(v0 v1 v2 v3 v4 v5 v6 v7:Int)(i:Nat)(h:i<8): [v0,v1,v2,v3,v4,v5,v6,v7][i]? =some ([v0,v1,v2,v3,v4,v5,v6,v7].getD i 0):=by
 rw[Ba,Ar zS];rfl
end
end
section
section
open Go.RowKit
theorem aop{gp:Nat}{E k:Int}{R V:List Int}(hR:R.length=8)(i:Nat)(hi:i<V.length):(MP gp E R k V)[11+i]? =some (.int .i64 (V.getD i 0)):=by
 unfold MP
 rw[show 11+i=(9+i)+1+1 by omega,EZ,EZ,D8 (by rw[Ci];omega),Ci,hR,show 9+i-8=i+1 by omega,EZ,BG,Ar hi,Ba,Ar hi]
 rfl
theorem anY{gp:Nat}{E k:Int}{R V:List Int}(hR:R.length=8)(i:Nat)(v:Int):(MP gp E R k V).set (11+i) (.int .i64 v)=MP gp E R k (V.set i v):=by
 unfold MP
 rw[show 11+i=(9+i)+1+1 by omega,AY,AY,Kq _ _ (by rw[Ci];omega),Ci,hR,show 9+i-8=i+1 by omega,AY,Gy]
theorem axm(t gp:Nat)(E k:Int)(R V:List Int)(a v:Int)(w:World)(hE:DW [blk t (MP gp E R k V) 220] w)(hR:R.length=8)(hV:V.length=8):
 Calls prog 109 [ptr t,.int .i64 a,.int .i64 v].toArray w fun e w'=>e= .returned (.int .i64 (if 0≤a∧a<8∧0≤v∧v<131072 then 0 else 1))∧Heap w [t] [blk t (MP gp E R k (if 0≤a∧a<8∧0≤v∧v<131072 then V.set a.toNat v else V)) 220] w':=by
 have H0:=Heap.start hE
 have e0:ids [blk t (MP gp E R k V) 220]=[t]:=rfl
 rw[e0]at H0
 have H:=H0
 clear H0 e0
 by_cases h0:a<0
 ·rw[if_neg Y,if_neg Y]
  refine BM 27 func109 O (Aw (pz ?_))
  refine Cc 9 O O (Cc 9 O O (ED O O (BL O (Cc 13 O O (Cc 13 O O (ED O O (BL O (Cc 17 O O (Cc 17 O O (ED O O (fV ?_)))))))))))
  exact⟨rfl,H⟩
 by_cases h8:8≤a
 ·rw[if_neg Y,if_neg Y]
  refine BM 27 func109 O (Aw (bM ?_))
  refine AX 9 O (Fz O) (AX 9 O (G8 O O Y) (Dp O O (BL O (Cc 13 O O (Cc 13 O O (ED O O (BL O (Cc 17 O O (Cc 17 O O (ED O O (fV ?_)))))))))))
  exact⟨rfl,H⟩
 by_cases h1:v<0
 ·rw[if_neg Y,if_neg Y]
  refine mZ ?_
  refine AX 13 O (Df O O Y) (Dp O O (BL O (Cc 17 O O (Cc 17 O O (ED O O (fV ?_))))))
  exact⟨rfl,H⟩
 by_cases h2:131072≤v
 ·rw[if_neg Y,if_neg Y]
  refine mZ ?_
  refine AX 13 O (CO O O Y) (Dp O O (BL O (AX 17 O (Fz O) (AX 17 O (G8 O O Y) (Dp O O (fV ?_))))))
  exact⟨rfl,H⟩
 rw[if_pos Y,if_pos Y]
 obtain⟨i,rfl⟩:=Bo (show 0≤a by omega)
 have hv:=aop (gp:=gp) (E:=E) (k:=k) hR i (V:=V) Y
 refine mZ ?_
 refine AX 13 O (CO O O Y) (Dp O O (BL O (AX 17 O (Fz O) (AX 17 O (F7 O O Y) (fE ?_)))))
 refine jl ?_
 refine Az O (Dl O (BR O aak (AL (aiC O O O Y underlying103 Kz) (Ic (u:= .int _ _) H 0 O O O O hv O Kz ?_))))
 clear H;refine ayJ fun _ H=>?_
 refine xX ?_
 rw[anY hR]at H
 exact⟨rfl,by rw[Bz];exact H⟩
theorem af'(t gp:Nat)(E k:Int)(R V:List Int)(w:World)(hE:DW [blk t (MP gp E R k V) 220] w)(hR:R.length=8)(hV:V.length=8):
 Calls prog 96 [ptr t].toArray w fun e w'=>e= .returned (.agg (V.map (Value.int .i64)).toArray)∧Only [] w w':=by
 obtain⟨r0,r1,r2,r3,r4,r5,r6,r7,rfl⟩:=O3 hR
 obtain⟨v0,v1,v2,v3,v4,v5,v6,v7,rfl⟩:=O3 hV
 rw[aeR]at hE
 have HR:=Heap.start hE
 have H:=Heap.nil w
 refine BM 7 func96 O (Aw (Ea H O Vg fun p2 _ H=>uX ?_))
 refine BR O aak (AL (JU (HR.same H.only) 0 (vs:=[.int .i64 v0,.int .i64 v1,.int .i64 v2,.int .i64 v3,.int .i64 v4,.int .i64 v5,.int .i64 v6,.int .i64 v7]) O O O O KU IC) (wu ?_))
 clear H;refine ayJ fun _ H=>?_
 refine Au (BH (ZP O (IG H 0 O O O KU IC) ?_))
 exact⟨rfl,H.only⟩
theorem aby(t gp:Nat)(E k:Int)(R V:List Int)(w:World)(hE:DW [blk t (MP gp E R k V) 220] w)(hR:R.length=8)(hV:V.length=8):
 Calls prog 63 [ptr t].toArray w fun e w'=>e= .returned (.agg (R.map (Value.int .i64)).toArray)∧Only [] w w':=by
 obtain⟨r0,r1,r2,r3,r4,r5,r6,r7,rfl⟩:=O3 hR
 obtain⟨v0,v1,v2,v3,v4,v5,v6,v7,rfl⟩:=O3 hV
 rw[aeR]at hE
 have HR:=Heap.start hE
 have H:=Heap.nil w
 refine BM 8 func63 O (Aw (Ea H O Vg fun p2 _ H=>uX ?_))
 refine BR O NC (AL (JV O aiO) (AL (JU (HR.same H.only) 0 (vs:=[.int .i64 r0,.int .i64 r1,.int .i64 r2,.int .i64 r3,.int .i64 r4,.int .i64 r5,.int .i64 r6,.int .i64 r7]) O O O O KU IC) (wu ?_)))
 clear H;refine ayJ fun _ H=>?_
 refine Au (BH (ZP O (IG H 0 O O O KU IC) ?_))
 exact⟨rfl,H.only⟩
end
end
section
section
open Go.RowKit
theorem aw5(E:Int)(R:List Int)(w:World)(hl:R.length=8)(hE:FX E)(hR:∀r∈R,I64 r):
 Calls prog 228 [.agg (.int .u64 E::R.map (Value.int .i64)).toArray].toArray w fun e w'=>e= .returned (.agg ((KL E R).map (Value.int .u64)).toArray)∧Only [] w w':=
 (akm E R w hl hE hR).mono fun _ _ h=>⟨h.1,Only.of_below h.2 _⟩
theorem ayr(ws:List Int):(ws.map (Value.int .u64)).all (·.oneCell')=true:=by simp[Value.oneCell']
theorem auZ{ws:List Int}{k:Nat}(h:k<ws.length):(ws.map (Value.int .u64))[k]? =some (.int .u64 (ws.getD k 0)):=by
 rw[BG,Ar h,Ba,Ar h];rfl
theorem al2(g:Geo)(d:Nv.D)(m i:Nat)(E:Int)(R:List Int)(w:World)(hE:DW (Dz g d) w)(hI:Nv.Inv d m)(hg:Wi g m)(hm:m≤100000)(hi:i=0∨i=1)(hl:R.length=8)(hEp:FX E)(hR:∀r∈R,I64 r):
 Calls prog 164 [ptr g.p,.int .i64 i,.agg (.int .u64 E::R.map (Value.int .i64)).toArray].toArray w fun e w'=>e= .returned (.int .i64 (Nv.wr d m (64+64*i) (KL E R)).2)∧Heap w (ids (Dz g d)) (Dz g (Nv.wr d m (64+64*i) (KL E R)).1) w':=by
 have H:=GZ hE
 have hS:=fun w=>aeb i w hi
 have Yo:=fun w=>aw5 E R w hl hEp hR
 have hw:=abm E R
 have hab:64+64*i≤128:=Y
 obtain⟨r0,r1,r2,r3,r4,r5,r6,r7,rfl⟩:=O3 hl
 simp only[Dx,D5]at Yo⊢
 generalize 64+64*i=a at*
 generalize KL E [r0,r1,r2,r3,r4,r5,r6,r7]=ws at*
 refine BM 54 func164 O (Aw (DU H O O fun p5 _ H=>oG ?_))
 refine BI H O (hS _) (afd O) fun W1 H=>nG ?_
 refine Dn H 0 O O O PW GY (BI H O (Yo _) (avx O) fun W1 H=>Ea H O ahq fun p8 _ H=>?_)
 refine Eh H 0 O O O O (by rw[Ci];exact hw) (ayr ws) O QJ ?_
 clear H;refine ayJ fun _ H=>?_
 refine Au (AP (Aw ?_))
 refine Hf O O (Je H 0 O O (by rw[Ci];exact hw) TP QJ) ?_
 refine tV ?_
 have hI0:=fun k=>hI.Il a ws k
 refine Ec (fun z f W=>∃k:Nat,k≤16∧z=16-k∧(Nv.Il d m a ws (Nv.cnt k)).2=0∧f 0=ptr g.p∧f 7= .int .i64 a∧f 8=ptr p8∧f 18= .agg (ws.map (Value.int .u64)).toArray∧f 19= .int .i64 k∧Heap w (ids (Dz g d)) [blk p8 (ws.map (Value.int .u64)) 217,blk p5 [.int .u64 E,.int .i64 r0,.int .i64 r1,.int .i64 r2,.int .i64 r3,.int .i64 r4,.int .i64 r5,.int .i64 r6,.int .i64 r7] 214,grp (Dz g (Nv.Il d m a ws (Nv.cnt k)).1)] W) 16 ⟨0,Y,rfl,rfl,rfl,rfl,rfl,rfl,rfl,H⟩ ?_
 clear H
 rintro z f W ⟨k,hk,rfl,hc0,f0,f7,f8,f18,f19,H⟩
 obtain⟨f,rfl⟩:=Lr f0 f7 f8 f18 f19
 clear f0 f7 f8 f18 f19
 by_cases hlt:k<16
 ·have hz:=auZ (ws:=ws) (k:=k) Y
  by_cases h8:k%8=0
  ·rw[←Nv.akR k hlt h8]at H hc0
   refine lW ?_
   refine kP ?_
   refine AL (Fv O O Y) (Au (EI O (DZ (Cb (EG (AO (DR (dI ?_))))))))
   refine Az O (AA (CU ?_))
   refine⟨_,_,?_,rfl,k+1,Y,rfl,hc0,rfl,rfl,rfl,rfl,rfl,H⟩
   omega
  ·obtain⟨ho,hcn⟩:=Nv.aro k hlt h8
   have hsu:=Nv.Wx d m a ws (Nv.cnt k) hc0
   rw[ho,←hcn]at hsu
   have hSt:=fun W hE=>YO g (Nv.Il d m a ws (Nv.cnt k)).1 m ((a:Int)+(k:Int)) (ws.getD k 0) W hE (hI0 _).ok hm
   rw[←hsu]at hSt
   by_cases hcode:(Nv.Il d m a ws (Nv.cnt (k+1))).2=0
   ·refine wM ?_
    rintro e W1 ⟨rfl,H'⟩
    refine⟨_,rfl,?_⟩
    have H1:=H.DN 2 rfl H';clear H H';have H:=H1;clear H1;simp only[AY,AZ]at H
    refine vY ?_
    refine⟨_,_,?_,rfl,k+1,Y,rfl,hcode,rfl,rfl,rfl,rfl,rfl,H⟩
    omega
   ·rw[Nv.afF d m a ws (Nv.cnt (k+1)) (by unfold Nv.cnt;omega) hcode]
    refine wM ?_
    rintro e W1 ⟨rfl,H'⟩
    refine⟨_,rfl,?_⟩
    have H1:=H.DN 2 rfl H';clear H H';have H:=H1;clear H1;simp only[AY,AZ]at H
    refine jQ ?_
    exact⟨rfl,Iw H.drop.drop⟩
 ·obtain rfl:k=16:=Y
  have c16:Nv.cnt 16=14:=rfl
  rw[c16]at H hc0
  refine je ?_
  refine tC ?_
  refine Ec (fun z f W=>∃j:Nat,j≤2∧z=2-j∧(Nv.Il d m a ws (14+j)).2=0∧f 0=ptr g.p∧f 7= .int .i64 a∧f 8=ptr p8∧f 12= .int .i64 ((8*j:Nat):Int)∧Heap w (ids (Dz g d)) [blk p8 (ws.map (Value.int .u64)) 217,blk p5 [.int .u64 E,.int .i64 r0,.int .i64 r1,.int .i64 r2,.int .i64 r3,.int .i64 r4,.int .i64 r5,.int .i64 r6,.int .i64 r7] 214,grp (Dz g (Nv.Il d m a ws (14+j)).1)] W) 2 ⟨0,Y,rfl,hc0,rfl,rfl,rfl,rfl,H⟩ ?_
  clear H
  rintro z f W ⟨j,hj,rfl,hc0,f0,f7,f8,f12,H⟩
  obtain⟨f,rfl⟩:=Ih f0 f7 f8 f12
  clear f0 f7 f8 f12
  by_cases hlt2:j<2
  ·have hz:=auZ (ws:=ws) (k:=8*j) Y
   have ho:Nv.order.getD (14+j) 0=8*j:=by
    rcases(show j=0∨j=1 by omega)with rfl|rfl<;>rfl
   have hsu:=Nv.Wx d m a ws (14+j) hc0
   rw[ho]at hsu
   have hSt:=fun W hE=>YO g (Nv.Il d m a ws (14+j)).1 m ((a:Int)+((8*j:Nat):Int)) (ws.getD (8*j) 0) W hE (hI0 _).ok hm
   rw[←hsu]at hSt
   by_cases hcode:(Nv.Il d m a ws (14+j+1)).2=0
   ·refine o8 ?_
    rintro e W1 ⟨rfl,H'⟩
    refine⟨_,rfl,?_⟩
    have H1:=H.DN 2 rfl H';clear H H';have H:=H1;clear H1;simp only[AY,AZ]at H
    refine mW ?_
    refine jy ?_
    refine⟨_,_,?_,rfl,j+1,Y,rfl,hcode,rfl,rfl,rfl,?_,H⟩
    ·omega
    ·exact congrArg (Value.int .i64) Y
   ·rw[Nv.afF d m a ws (14+j+1) Y hcode]
    refine o8 ?_
    rintro e W1 ⟨rfl,H'⟩
    refine⟨_,rfl,?_⟩
    have H1:=H.DN 2 rfl H';clear H H';have H:=H1;clear H1;simp only[AY,AZ]at H
    refine jQ ?_
    exact⟨rfl,Iw H.drop.drop⟩
  ·obtain rfl:j=2:=Y
   have c2:14+2=16:=rfl
   rw[c2]at H hc0
   rw[Nv.anm d m a ws hc0]
   have hP:=fun W hE=>VJ g (Nv.Il d m a ws 16).1 m a 16 W hE (hI0 _).ok hg hm
   refine fJ ?_
   refine kH ?_
   refine jl ?_
   refine s_call O (hP _ (H.Bl 2 O)) (UL O) ?_
   rintro e W1 ⟨rfl,H'⟩
   refine⟨_,rfl,?_⟩
   have H1:=H.DN 2 rfl H';clear H H';have H:=H1;clear H1;simp only[AY,AZ]at H
   refine fH ?_
   exact⟨rfl,Iw H.drop.drop⟩
theorem aoX(g:Geo)(d:Nv.D)(m:Nat)(w:World)(hE:DW (Dz g d) w)(hI:Nv.Inv d m)(hg:Wi g m)(hm:m≤100000):
 Calls prog 102 [ptr g.p].toArray w fun e w'=>e= .returned (.int .i64 (Nv.wr d m 64 (KL 1 [0,0,0,0,0,0,0,0])).2)∧Heap w (ids (Dz g d)) (Dz g (Nv.wr d m 64 (KL 1 [0,0,0,0,0,0,0,0])).1) w':=by
 have H:=GZ hE
 have hW:=fun W hE=>al2 g d m 0 1 [0,0,0,0,0,0,0,0] W hE hI hg hm (.inl rfl) rfl ⟨Y,Y⟩ (by intro r hr;simp at hr;subst hr;exact⟨Y,Y⟩)
 simp only[Dx,D5,KH,KF]at hW
 refine BM 6 func102 O (Aw (nV ?_))
 refine AL (FP (aoC _) O) (s_call O (hW _ (H.Bl 0 O)) (afD O) ?_)
 rintro e W1 ⟨rfl,H'⟩
 refine⟨_,rfl,?_⟩
 have H1:=H.DN 0 rfl H';clear H H';have H:=H1;clear H1;simp only[AY,AZ]at H
 refine fH ?_
 exact⟨rfl,Iw H⟩
end
end
section
section
open Go.RowKit
theorem awI(t:Nat)(g:Geo)(d:Nv.D)(m i:Nat)(E k:Int)(R V:List Int)(w:World)(hE:DW [blk t (MP g.p E R k V) 220,grp (Dz g d)] w)(hI:Nv.Inv d m)(hg:Wi g m)(hm:m≤100000)(hi:i=0∨i=1):
 Calls prog 170 [ptr t,.int .i64 i].toArray w fun e w'=>e= .returned (.int .i64 (Nv.wi d m (64+64*i) E).2)∧Heap w (ids [blk t (MP g.p E R k V) 220,grp (Dz g d)]) [blk t (MP g.p E R k V) 220,grp (Dz g (Nv.wi d m (64+64*i) E).1)] w':=by
 have H:=Heap.start hE
 generalize ids [blk t (MP g.p E R k V) 220,grp (Dz g d)]=FF at*
 have hS:=fun w=>aeb i w hi
 have hab:64+64*i≤128:=Y
 generalize 64+64*i=a at*
 have h0:(MP g.p E R k V)[0]? =some (ptr g.p):=rfl
 have h1:(MP g.p E R k V)[1]? =some (.int .u64 E):=rfl
 generalize MP g.p E R k V=cs at*
 by_cases c1:Nv.get d.cache a≤E
 ·by_cases c2:Nv.get d.cache ((a:Int)+8)≤E
  ·rw[Nv.auI d m a E ⟨c1,c2⟩]
   refine BM 58 func170 O (Aw (oG ?_))
   refine BI H O (hS _) (afd O) fun W1 H=>vX ?_
   refine GN 22 O (fun _ H=>YH O O Y) (uV ?_)
   refine H8 ?_
   clear H;intro _ H
   refine AO (EI O (Aw (oL ?_)))
   refine aQ ?_
   exact⟨rfl,H⟩
  ·have hno:¬(Nv.get d.cache a≤E∧Nv.get d.cache ((a:Int)+8)≤E):=fun h=>c2 h.2
   refine BM 58 func170 O (Aw (oG ?_))
   refine BI H O (hS _) (afd O) fun W1 H=>vX ?_
   refine GN 22 O (fun _ H=>aa3 O O Y) (uV ?_)
   refine H8 ?_
   clear H;intro _ H
   refine AO (DX O (Bj (AO (AP (Aw (AQ O (Au (ku ?_))))))))
   clear H
   rintro z f W ⟨j,hj,rfl,hc0,f0,f5,f6,H⟩
   obtain⟨f,rfl⟩:=OE f0 f5 f6
   clear f0 f5 f6
   have hI0:=fun k=>hI.JB a k
   by_cases hlt2:j<2
   ·have hsu:=Nv.WC d m a j hc0
    have ea:(a:Int)+8*(j:Int)=(a:Int)+((8*j:Nat):Int):=Y
    rw[ea]at hsu
    have hSt:=fun W hE=>YO g (Nv.JB d m a j).1 m ((a:Int)+((8*j:Nat):Int)) 0 W hE (hI0 _).ok hm
    rw[←hsu]at hSt
    by_cases hcode:(Nv.JB d m a (j+1)).2=0
    ·refine gB ?_
     rintro e W1 ⟨rfl,H'⟩
     refine⟨_,rfl,?_⟩
     have H1:=H.DN 1 rfl H';clear H H';have H:=H1;clear H1;simp only[AY,AZ]at H
     refine mW ?_
     refine jy ?_
     refine⟨_,_,?_,rfl,j+1,Y,rfl,hcode,rfl,rfl,?_,H⟩
     ·omega
     ·exact congrArg (Value.int .i64) Y
    ·rw[Nv.aeV d m a E hno (j+1) Y hcode]
     refine gB ?_
     rintro e W1 ⟨rfl,H'⟩
     refine⟨_,rfl,?_⟩
     have H1:=H.DN 1 rfl H';clear H H';have H:=H1;clear H1;simp only[AY,AZ]at H
     refine jQ ?_
     exact⟨rfl,H⟩
   ·obtain rfl:j=2:=Y
    rw[Nv.amO d m a E hno hc0]
    have hP:=fun W hE=>VJ g (Nv.JB d m a 2).1 m a 16 W hE (hI0 _).ok hg hm
    refine vJ ?_
    rintro e W1 ⟨rfl,H'⟩
    refine⟨_,rfl,?_⟩
    have H1:=H.DN 1 rfl H';clear H H';have H:=H1;clear H1;simp only[AY,AZ]at H
    refine fH ?_
    exact⟨rfl,H⟩
 ·have hno:¬(Nv.get d.cache a≤E∧Nv.get d.cache ((a:Int)+8)≤E):=fun h=>c1 h.1
  refine BM 58 func170 O (Aw (oG ?_))
  refine BI H O (hS _) (afd O) fun W1 H=>qw ?_
  refine AP (fB ?_)
  refine BK (fun _ H=>aa3 O O Y) (BK (fun _ H=>BP (v:= .bool _) O) (mO ?_))
  refine mO ?_
  refine mO ?_
  refine mO ?_
  refine Ip O (FI 22 Ak O O) (BK (fun _ H=>Ku (v:= .bool _) O O) (H8 ?_))
  clear H;intro _ H
  refine AO (DX O (Bj (AO (AP (Aw (AQ O (Au (ku ?_))))))))
  clear H
  rintro z f W ⟨j,hj,rfl,hc0,f0,f5,f6,H⟩
  obtain⟨f,rfl⟩:=OE f0 f5 f6
  clear f0 f5 f6
  have hI0:=fun k=>hI.JB a k
  by_cases hlt2:j<2
  ·have hsu:=Nv.WC d m a j hc0
   have ea:(a:Int)+8*(j:Int)=(a:Int)+((8*j:Nat):Int):=Y
   rw[ea]at hsu
   have hSt:=fun W hE=>YO g (Nv.JB d m a j).1 m ((a:Int)+((8*j:Nat):Int)) 0 W hE (hI0 _).ok hm
   rw[←hsu]at hSt
   by_cases hcode:(Nv.JB d m a (j+1)).2=0
   ·refine gB ?_
    rintro e W1 ⟨rfl,H'⟩
    refine⟨_,rfl,?_⟩
    have H1:=H.DN 1 rfl H';clear H H';have H:=H1;clear H1;simp only[AY,AZ]at H
    refine mW ?_
    refine jy ?_
    refine⟨_,_,?_,rfl,j+1,Y,rfl,hcode,rfl,rfl,?_,H⟩
    ·omega
    ·exact congrArg (Value.int .i64) Y
   ·rw[Nv.aeV d m a E hno (j+1) Y hcode]
    refine gB ?_
    rintro e W1 ⟨rfl,H'⟩
    refine⟨_,rfl,?_⟩
    have H1:=H.DN 1 rfl H';clear H H';have H:=H1;clear H1;simp only[AY,AZ]at H
    refine jQ ?_
    exact⟨rfl,H⟩
  ·obtain rfl:j=2:=Y
   rw[Nv.amO d m a E hno hc0]
   have hP:=fun W hE=>VJ g (Nv.JB d m a 2).1 m a 16 W hE (hI0 _).ok hg hm
   refine vJ ?_
   rintro e W1 ⟨rfl,H'⟩
   refine⟨_,rfl,?_⟩
   have H1:=H.DN 1 rfl H';clear H H';have H:=H1;clear H1;simp only[AY,AZ]at H
   refine fH ?_
   exact⟨rfl,H⟩
end
end
section
section
open Go.RowKit
theorem apr(t:Nat)(g:Geo)(d:Nv.D)(m k:Nat)(E:Int)(R V:List Int)(w:World)(hE:DW [blk t (MP g.p E R k V) 220,grp (Dz g d)] w)(hI:Nv.Inv d m)(hg:Wi g m)(hm:m≤100000)(hk:k=0∨k=1)(hEp:FX E)(hR:R.length=8)(hV:V.length=8)(hVi:∀r∈V,I64 r):
 Calls prog 111 [ptr t].toArray w fun e w'=>e= .returned (.int .i64 (Nv.cm d m E k (KL (E+1) V)).2)∧
  Heap w (ids [blk t (MP g.p E R k V) 220,grp (Dz g d)]) [blk t (if(Nv.cm d m E k (KL (E+1) V)).2=0 then MP g.p (E+1) V ((1-k:Nat):Int) V else MP g.p E R k V) 220,grp (Dz g (Nv.cm d m E k (KL (E+1) V)).1)] w':=by
 have H:=Heap.start hE
 generalize ids [blk t (MP g.p E R k V) 220,grp (Dz g d)]=FF at*
 have hko:1-k=0∨1-k=1:=Y
 have hk1:(1:Int)-(k:Int)=((1-k:Nat):Int):=Y
 obtain⟨r0,r1,r2,r3,r4,r5,r6,r7,rfl⟩:=O3 hR
 obtain⟨v0,v1,v2,v3,v4,v5,v6,v7,rfl⟩:=O3 hV
 by_cases hbig:1152921504606846976≤E
 ·have e:Nv.cm d m E k (KL (E+1) [v0,v1,v2,v3,v4,v5,v6,v7])=(d,26):=by unfold Nv.cm;rw[if_pos hbig]
  rw[e,if_neg (show¬((26:Int)=0)by decide)]
  rw[aeR]at H⊢
  refine BM 53 func111 O (Aw (qY ?_))
  refine AL (G8 O O Y) (fV ?_)
  exact⟨rfl,H⟩
 have hWi:=fun W hE=>awI t g d m (1-k) E k [r0,r1,r2,r3,r4,r5,r6,r7] [v0,v1,v2,v3,v4,v5,v6,v7] W hE hI hg hm hko
 have hI1:=hI.wi (64+64*(1-k)) E
 have hWr:=fun W hE=>al2 g (Nv.wi d m (64+64*(1-k)) E).1 m (1-k) (E+1) [v0,v1,v2,v3,v4,v5,v6,v7] W hE hI1 hg hm hko rfl ⟨by have:=hEp.1;omega,Y⟩ hVi
 simp only[Dx,D5]at hWr
 have hU:=hEp
 unfold FX at hU
 rw[aeR]at H hWi
 by_cases hw:(Nv.wi d m (64+64*(1-k)) E).2=0
 ·have e:Nv.cm d m E k (KL (E+1) [v0,v1,v2,v3,v4,v5,v6,v7])=Nv.wr (Nv.wi d m (64+64*(1-k)) E).1 m (64+64*(1-k)) (KL (E+1) [v0,v1,v2,v3,v4,v5,v6,v7]):=by unfold Nv.cm;rw[if_neg hbig,if_pos hw]
  rw[e]
  rw[hw]at hWi
  generalize Nv.wr (Nv.wi d m (64+64*(1-k)) E).1 m (64+64*(1-k)) (KL (E+1) [v0,v1,v2,v3,v4,v5,v6,v7])=X at*
  generalize(Nv.wi d m (64+64*(1-k)) E).1=D1 at*
  refine BM 53 func111 O (Aw (qY ?_))
  refine AL (F7 O O Y) (dX ?_)
  refine AP ?_
  refine Jj (fun f W=>∃p3,f 0=ptr t∧f 3=ptr p3∧Heap w FF [blk p3 [.int .u64 (E+1),.int .i64 v0,.int .i64 v1,.int .i64 v2,.int .i64 v3,.int .i64 v4,.int .i64 v5,.int .i64 v6,.int .i64 v7] 214,blk t [ptr g.p,.int .u64 E,.int .i64 r0,.int .i64 r1,.int .i64 r2,.int .i64 r3,.int .i64 r4,.int .i64 r5,.int .i64 r6,.int .i64 r7,.int .i64 k,.int .i64 v0,.int .i64 v1,.int .i64 v2,.int .i64 v3,.int .i64 v4,.int .i64 v5,.int .i64 v6,.int .i64 v7] 220,grp (Dz g d)] W) ?_ ?_
  ·refine Gu mixed ?_;replace H:=H.drew
   refine iZ ?_
   refine TM 4 9 11 Ak ?_ ?_ ?_
   ·refine tY ?_
    refine D6 9 11 ?_ ?_
    ·refine BO O (AL Aj (aj ?_))
     refine kX ?_
     refine Ea H O IX fun p3 _ H=>aj ?_
     refine Bd 12 O (jY ?_)
     clear H;refine ayJ fun _ H=>?_
     refine kV ?_
     exact⟨_,rfl,rfl,H⟩
    ·refine BO O (Ea H O IX fun p3 _ H=>aj ?_)
     refine wO ?_
     clear H;refine ayJ fun _ H=>?_
     refine kV ?_
     exact⟨_,rfl,rfl,H⟩
   ·refine BO O (AL Aj (aj ?_))
    refine D6 4 11 ?_ ?_
    ·refine tY ?_
     refine kX ?_
     refine Ea H O IX fun p3 _ H=>aj ?_
     refine Bd 12 O (jY ?_)
     clear H;refine ayJ fun _ H=>?_
     refine kV ?_
     exact⟨_,rfl,rfl,H⟩
    ·refine BO O (Ea H O IX fun p3 _ H=>qm ?_)
     clear H;refine ayJ fun _ H=>?_
     refine kV ?_
     exact⟨_,rfl,rfl,H⟩
   ·refine BO O (Ea H O IX fun p3 _ H=>aj ?_)
    refine D6 4 9 ?_ ?_
    ·refine BO O (BD H 1 O O O GR (aj ?_))
     refine gU ?_
     refine wO ?_
     clear H;refine ayJ fun _ H=>?_
     refine kV ?_
     exact⟨_,rfl,rfl,H⟩
    ·refine BO O (AL Aj (qm ?_))
     clear H;refine ayJ fun _ H=>?_
     refine kV ?_
     exact⟨_,rfl,rfl,H⟩
  clear H
  rintro f W ⟨p3,f0,f3,H⟩
  obtain⟨f,rfl⟩:=VT f0 f3
  clear f0 f3
  by_cases hx:X.2=0
  ·rw[if_pos hx]
   rw[hx]at hWr⊢
   refine AO (eY ?_)
   refine BR O Yu (BD H 1 O O O GU ?_)
   refine Hf O O (FH (c:=((1-k:Nat):Int)) O O (by rw[hk1];exact wI Y)) ?_
   refine wV ?_
   rintro e W1 ⟨rfl,H'⟩
   refine⟨_,rfl,?_⟩
   have H1:Heap w FF ([blk t _ _,grp _]++ [blk p3 _ _]) _:=Heap.step (A:=[blk t _ _,grp _]) (L:=[blk p3 _ _]) ((H.pick 1 rfl).perm (.cons _ (.swap _ _ _))) H' (fun i hi=>hi);clear H H';have H:=H1.pick 2 rfl;clear H1;simp only[EJ,EH,Jt,Js]at H
   refine mW ?_
   refine AO (AP (AP ?_))
   refine Gu mixed ?_;replace H:=H.drew
   refine vH ?_
   refine D6 3 5 ?_ ?_
   ·refine BO O (BD H 1 O O O Kt (iE ?_))
    refine Dn H 0 O O O PW GY (qP ?_)
    rintro e W1 ⟨rfl,H'⟩
    refine⟨_,rfl,?_⟩
    have H1:=H.DN 2 rfl H';clear H H';have H:=H1;clear H1;simp only[AY,AZ]at H
    refine uY ?_
    clear H;refine ayJ fun _ H=>?_
    refine Dl O (BR O Yu (Ic (u:= .int _ _) H 1 O O O O O O Kz ?_))
    clear H;refine ayJ fun _ H=>?_
    refine xX ?_
    rw[aeR]
    exact⟨rfl,H.drop⟩
   ·refine BO O (Dn H 0 O O O PW GY (qx ?_))
    refine BD H 1 O O O Kt (qP ?_)
    rintro e W1 ⟨rfl,H'⟩
    refine⟨_,rfl,?_⟩
    have H1:=H.DN 2 rfl H';clear H H';have H:=H1;clear H1;simp only[AY,AZ]at H
    refine uY ?_
    clear H;refine ayJ fun _ H=>?_
    refine Dl O (BR O Yu (Ic (u:= .int _ _) H 1 O O O O O O Kz ?_))
    clear H;refine ayJ fun _ H=>?_
    refine xX ?_
    rw[aeR]
    exact⟨rfl,H.drop⟩
  ·rw[if_neg hx,aeR]
   refine AO (eY ?_)
   refine BR O Yu (BD H 1 O O O GU ?_)
   refine Hf O O (FH (c:=((1-k:Nat):Int)) O O (by rw[hk1];exact wI Y)) ?_
   refine wV ?_
   rintro e W1 ⟨rfl,H'⟩
   refine⟨_,rfl,?_⟩
   have H1:Heap w FF ([blk t _ _,grp _]++ [blk p3 _ _]) _:=Heap.step (A:=[blk t _ _,grp _]) (L:=[blk p3 _ _]) ((H.pick 1 rfl).perm (.cons _ (.swap _ _ _))) H' (fun i hi=>hi);clear H H';have H:=H1.pick 2 rfl;clear H1;simp only[EJ,EH,Jt,Js]at H
   refine mW ?_
   refine AO (AP (AP ?_))
   refine Gu mixed ?_;replace H:=H.drew
   refine vH ?_
   refine D6 3 5 ?_ ?_
   ·refine BO O (BD H 1 O O O Kt (iE ?_))
    refine Dn H 0 O O O PW GY (qP ?_)
    rintro e W1 ⟨rfl,H'⟩
    refine⟨_,rfl,?_⟩
    have H1:=H.DN 2 rfl H';clear H H';have H:=H1;clear H1;simp only[AY,AZ]at H
    refine mG ?_
    refine Aw (Az O (AL (Hl O O Y) (uU ?_)))
    exact⟨rfl,H.drop⟩
   ·refine BO O (Dn H 0 O O O PW GY (qx ?_))
    refine BD H 1 O O O Kt (qP ?_)
    rintro e W1 ⟨rfl,H'⟩
    refine⟨_,rfl,?_⟩
    have H1:=H.DN 2 rfl H';clear H H';have H:=H1;clear H1;simp only[AY,AZ]at H
    refine mG ?_
    refine Aw (Az O (AL (Hl O O Y) (uU ?_)))
    exact⟨rfl,H.drop⟩
 ·have e:Nv.cm d m E k (KL (E+1) [v0,v1,v2,v3,v4,v5,v6,v7])=Nv.wi d m (64+64*(1-k)) E:=by unfold Nv.cm;rw[if_neg hbig,if_neg hw]
  rw[e,if_neg hw,aeR]
  generalize Nv.wi d m (64+64*(1-k)) E=X at*
  refine BM 53 func111 O (Aw (qY ?_))
  refine AL (F7 O O Y) (dX ?_)
  refine AP ?_
  refine Jj (fun f W=>∃p3,f 0=ptr t∧f 3=ptr p3∧Heap w FF [blk p3 [.int .u64 (E+1),.int .i64 v0,.int .i64 v1,.int .i64 v2,.int .i64 v3,.int .i64 v4,.int .i64 v5,.int .i64 v6,.int .i64 v7] 214,blk t [ptr g.p,.int .u64 E,.int .i64 r0,.int .i64 r1,.int .i64 r2,.int .i64 r3,.int .i64 r4,.int .i64 r5,.int .i64 r6,.int .i64 r7,.int .i64 k,.int .i64 v0,.int .i64 v1,.int .i64 v2,.int .i64 v3,.int .i64 v4,.int .i64 v5,.int .i64 v6,.int .i64 v7] 220,grp (Dz g d)] W) ?_ ?_
  ·refine Gu mixed ?_;replace H:=H.drew
   refine iZ ?_
   refine TM 4 9 11 Ak ?_ ?_ ?_
   ·refine tY ?_
    refine D6 9 11 ?_ ?_
    ·refine BO O (AL Aj (aj ?_))
     refine kX ?_
     refine Ea H O IX fun p3 _ H=>aj ?_
     refine Bd 12 O (jY ?_)
     clear H;refine ayJ fun _ H=>?_
     refine kV ?_
     exact⟨_,rfl,rfl,H⟩
    ·refine BO O (Ea H O IX fun p3 _ H=>aj ?_)
     refine wO ?_
     clear H;refine ayJ fun _ H=>?_
     refine kV ?_
     exact⟨_,rfl,rfl,H⟩
   ·refine BO O (AL Aj (aj ?_))
    refine D6 4 11 ?_ ?_
    ·refine tY ?_
     refine kX ?_
     refine Ea H O IX fun p3 _ H=>aj ?_
     refine Bd 12 O (jY ?_)
     clear H;refine ayJ fun _ H=>?_
     refine kV ?_
     exact⟨_,rfl,rfl,H⟩
    ·refine BO O (Ea H O IX fun p3 _ H=>qm ?_)
     clear H;refine ayJ fun _ H=>?_
     refine kV ?_
     exact⟨_,rfl,rfl,H⟩
   ·refine BO O (Ea H O IX fun p3 _ H=>aj ?_)
    refine D6 4 9 ?_ ?_
    ·refine BO O (BD H 1 O O O GR (aj ?_))
     refine gU ?_
     refine wO ?_
     clear H;refine ayJ fun _ H=>?_
     refine kV ?_
     exact⟨_,rfl,rfl,H⟩
    ·refine BO O (AL Aj (qm ?_))
     clear H;refine ayJ fun _ H=>?_
     refine kV ?_
     exact⟨_,rfl,rfl,H⟩
  clear H
  rintro f W ⟨p3,f0,f3,H⟩
  obtain⟨f,rfl⟩:=VT f0 f3
  clear f0 f3
  refine AO (eY ?_)
  refine BR O Yu (BD H 1 O O O GU ?_)
  refine Hf O O (FH (c:=((1-k:Nat):Int)) O O (by rw[hk1];exact wI Y)) ?_
  refine wV ?_
  rintro e W1 ⟨rfl,H'⟩
  refine⟨_,rfl,?_⟩
  have H1:Heap w FF ([blk t _ _,grp _]++ [blk p3 _ _]) _:=Heap.step (A:=[blk t _ _,grp _]) (L:=[blk p3 _ _]) ((H.pick 1 rfl).perm (.cons _ (.swap _ _ _))) H' (fun i hi=>hi);clear H H';have H:=H1.pick 2 rfl;clear H1;simp only[EJ,EH,Jt,Js]at H
  refine oG ?_
  refine AL (Hl O O Y) (uU ?_)
  exact⟨rfl,H.drop⟩
end
end
section
section
open Go.RowKit
section
variable{P:Program}{n:Sz}{f:Nat→Value}{W:World}{dst:Option Tmp}{ty:TypeId}{pos:String}{af:Array Edge}{g:Option (Nat×Bool)}{x y:Operand}{t e:TypeId}
theorem avy{k:IntKind}{l i m:Nat}{a:Int}{cs:List Value}(hx:ev n f x= .agg cs.toArray)(hy:ev n f y= .int k a)(ha:a=(i:Int))(hi:i<l){vs:List Value}(hv:(cs.drop (i*m)).take m=vs)(h:P.underlying t=some (.array l e))(hm:∀W,(Go.sizeOf e).run P W= .ok m W)(hagg:∀W,(isAgg e).run P W= .ok true W):
 (execOp (ev n f) ⟨dst,.index t x y,ty,pos,af,g⟩).run P W= .ok (.value (.agg vs.toArray)) W:=by
 subst ha
 subst hv
 have h1:(0:Int)≤i∧(i:Int)<l:=Y
 simp only[execOp,Instr.index,hx,hy,asIntOf,Sem.run_bind,run_underlying h,Result.andThen_ok,Sem.run_pure,h1,and_self,if_true,hm,Bz,part,hagg,I4,if_false]
 rw[show cs.toArray.extract (i*m) (i*m+m)=((cs.drop (i*m)).take m).toArray by rw[List.extract_toArray,List.extract_eq_take_drop,TJ]]
end
def hpC(p pA t:Nat)(R:List Int)(Qb pC Qd:Nat):List Value:=ptr p::ptr pA::ptr t::(R.map (Value.int .i64)++ [ptr Qb,ptr pC,pt Qd,.bool false])
theorem alH{p pA t:Nat}{R:List Int}{Qb pC Qd:Nat}(i:Nat)(hi:i<R.length):(hpC p pA t R Qb pC Qd)[3+i]? =some (.int .i64 (R.getD i 0)):=by
 unfold hpC
 rw[show 3+i=i+1+1+1 by omega,EZ,EZ,EZ,Ej zO,BG,Ar hi,Ba,Ar hi]
 rfl
theorem ar1{p pA t:Nat}{R:List Int}{Qb pC Qd:Nat}(i:Nat)(hi:i<R.length)(v:Int):(hpC p pA t R Qb pC Qd).set (3+i) (.int .i64 v)=hpC p pA t (R.set i v) Qb pC Qd:=by
 unfold hpC
 rw[show 3+i=i+1+1+1 by omega,AY,AY,AY,List.set_append_left _ _ zO,Gy]
theorem ZX{p pA t:Nat}{R:List Int}{Qb pC Qd:Nat}(h:R.length=32)(k:Nat):(hpC p pA t R Qb pC Qd)[35+k]? =[ptr Qb,ptr pC,pt Qd,.bool false][k]? :=by
 unfold hpC
 rw[show 35+k=(32+k)+1+1+1 by omega,EZ,EZ,EZ,D8 (by rw[Ci];omega),Ci,h,TJ]
section
variable{b p pA t Qb pC Qd:Nat}{R:List Int}{w:World}
theorem aai(m r:Nat)(w:World)(hm:m<4)(hr:r<8):Calls prog 91 [.agg [.int .i64 m,.int .i64 r].toArray].toArray w fun e w'=>e= .returned (.bool true)∧Only [] w w':=by
 have H:=Heap.nil w
 refine BM 21 func91 O (Aw (DU H O O fun p1 _ H=>BN O (Au (Aw (BR O abH (mQ ?_))))))
 refine AL (G8 O O Y) (BL O (AX 6 O (CB O abH) (AX 6 O (Ef H 0 O O O GU) (AX 6 O (Df O O Y) (ED O O (BL O (AX 11 O (CB O aeA) (AX 11 O (Ef H 0 O O O GU) (AX 11 O (G8 O O Y) (ED O O (BL O (AX 16 O (CB O aeA) (AX 16 O (Ef H 0 O O O GU) ?_)))))))))))))
 refine AX 16 O (Df O O Y) (oJ ?_)
 exact⟨rfl,H.drop.only⟩
theorem agb(hE:DW [blk b (hpC p pA t R Qb pC Qd) 111] w)(hR:R.length=32)(m r:Nat)(hm:m<4)(hr:r<8):
 Calls prog 108 [.pointer (some ⟨b,3,none⟩),.agg [.int .i64 m,.int .i64 r].toArray].toArray w fun e w'=>e= .returned (.tuple #[.int .i64 (R.getD (8*m+r) 0),.int .i64 0])∧Only [] w w':=by
 have HR:=Heap.start hE
 have H:=Heap.nil w
 have hv:=alH (p:=p) (pA:=pA) (t:=t) (R:=R) (Qb:=Qb) (pC:=pC) (Qd:=Qd) (8*m+r) Y
 rw[show 3+(8*m+r)=3+m*8+r by omega]at hv
 have hRi:=fun W=>aai m r W hm hr
 refine BM 19 func108 O (Aw (DU H O O fun p3 _ H=>AQ O (qw ?_)))
 refine Aw (Dn H 0 O O O UC SN (BI H O (hRi _) (aos O) fun W1 H=>gK ?_))
 refine rG ?_
 refine og ?_
 refine ou ?_
 refine BK (fun _ H=>Ef (HR.same H.only) 0 O O hv GU) (vW ?_)
 refine vW ?_
 refine H8 ?_
 clear H;intro _ H
 refine AO (BH (dn ?_))
 exact⟨rfl,H.drop.only⟩
theorem arv(hE:DW [blk b (hpC p pA t R Qb pC Qd) 111] w)(hR:R.length=32)(m r:Nat)(hm:m<4)(hr:r<8)(h0:R.getD (8*m+r) 0≠0):
 Calls prog 207 [.pointer (some ⟨b,3,none⟩),.agg [.int .i64 m,.int .i64 r].toArray].toArray w fun e w'=>e= .returned (.tuple #[.int .i64 (R.getD (8*m+r) 0),.int .i64 0])∧Only [] w w':=by
 have HR:=Heap.start hE
 have H:=Heap.nil w
 have hG:=fun{W:World} hE=>agb (w:=W) (b:=b) (p:=p) (pA:=pA) (t:=t) (Qb:=Qb) (pC:=pC) (Qd:=Qd) (R:=R) hE hR m r hm hr
 generalize R.getD (8*m+r) 0=v at*
 refine BM 22 func207 O (Aw (DU H O O fun p3 _ H=>AQ O (nV ?_)))
 refine Dn H 0 O O O UC SN (BI H O (hG (HR.same H.only).ents) (afe O) fun W1 H=>eH ?_)
 refine Au (fJ ?_)
 refine AL (Fv O O Y) (BL O (AX 16 O (Fz O) (AX 16 O (Fb O O Y) (ED O O (dX ?_)))))
 refine Aw (Az O (Az O (pI ?_)))
 exact⟨rfl,H.drop.only⟩
theorem ai9(hE:DW [blk b (hpC p pA t R Qb pC Qd) 111] w)(hR:R.length=32)(m r:Nat)(hm:m<4)(hr:r<8)(a:Int)(ha:0≤a):
 Calls prog 95 [.pointer (some ⟨b,3,none⟩),.agg [.int .i64 m,.int .i64 r].toArray,.int .i64 a].toArray w fun e w'=>e= .returned (.int .i64 0)∧Heap w [b] [blk b (hpC p pA t (R.set (8*m+r) a) Qb pC Qd) 111] w':=by
 have H:Heap w [b] [blk b (hpC p pA t R Qb pC Qd) 111] w:=Heap.start hE
 have hv:=alH (p:=p) (pA:=pA) (t:=t) (R:=R) (Qb:=Qb) (pC:=pC) (Qd:=Qd) (8*m+r) Y
 have hs:=ar1 (p:=p) (pA:=pA) (t:=t) (R:=R) (Qb:=Qb) (pC:=pC) (Qd:=Qd) (8*m+r) Y a
 rw[show 3+(8*m+r)=3+m*8+r by omega]at hv hs
 have hRi:=fun W=>aai m r W hm hr
 refine BM 24 func95 O (Aw (DU H O O fun p4 _ H=>qw ?_))
 refine Aw (Dn H 0 O O O UC SN (BI H O (hRi _) (aos O) fun W1 H=>AL (EM O) (BL O (AX 10 O (Fz O) (AX 10 O (CO O O Y) (fE ?_))))))
 refine AP (abM 10 mixed Ak H O O (og ?_))
 refine eG ?_
 refine ou ?_
 refine H8 ?_
 clear H;intro _ H
 refine Ic (u:= .int _ _) H 1 O O O O hv O Kz ?_
 clear H;refine ayJ fun _ H=>?_
 refine xX ?_
 rw[hs]at H
 exact⟨rfl,H.drop⟩
theorem au7(hE:DW [blk b (hpC p pA t R Qb pC Qd) 111] w)(hR:R.length=32):
 Calls prog 97 [.pointer (some ⟨b,3,none⟩)].toArray w fun e w'=>∃A c,e= .returned (.slice A (R.filter (· ≠0)).length c)∧Heap w [] [Dw 1 (.slice A (R.filter (· ≠0)).length c) (R.filter (· ≠0)).length ((R.filter (· ≠0)).map (Value.int .i64)) 3] w':=by
 have HR:=Heap.start hE
 have H:=(Heap.nil w).G6 1 3
 have htk:((hpC p pA t R Qb pC Qd).drop 3).take 32=R.map (Value.int .i64):=by
  show(R.map (Value.int .i64)++_).take 32=_
  rw[show 32=(R.map (Value.int .i64)).length by rw[Ci,hR]]
  exact Vz
 have axd:(R.map (Value.int .i64)).length=32:=by rw[Ci,hR]
 refine BM 28 func97 O (Aw (En O (Au (Aw (En O (Au (AP (eY ?_))))))))
 refine AL (JV O adF) (AL (JU (HR.same H.only) 0 (vs:=R.map (Value.int .i64)) O O htk axd avw avM) (tV ?_))
 clear htk
 refine Ec (fun z f W=>∃(i:Nat) (OA:Option Addr) (oc:Nat),i≤4∧z=4-i∧f 3= .slice OA ((R.take (8*i)).filter (· ≠0)).length oc∧f 11= .agg (R.map (Value.int .i64)).toArray∧f 12= .int .i64 i∧Heap w [] [Dw 1 (.slice OA ((R.take (8*i)).filter (· ≠0)).length oc) ((R.take (8*i)).filter (· ≠0)).length (((R.take (8*i)).filter (· ≠0)).map (Value.int .i64)) 3] W) 4 ⟨0,none,0,Y,rfl,rfl,rfl,rfl,H⟩ ?_
 clear H
 rintro z f W ⟨i,OA,oc,hi,rfl,f3,f11,f12,H⟩
 obtain⟨f,rfl⟩:=OE f3 f11 f12
 clear f3 f11 f12
 by_cases hlt:i<4
 ·have hrl:((R.drop (8*i)).take 8).length=8:=by rw[Dy,CZ];omega
  have hrow:(((R.map (Value.int .i64)).drop (i*8)).take 8)=((R.drop (8*i)).take 8).map (Value.int .i64):=by rw[JG,←List.map_drop,←NU]
  have hget:∀j,j<8→R[8*i+j]? =((R.drop (8*i)).take 8)[j]? :=fun j hj=>by rw[IV,if_pos hj,DV]
  generalize(R.drop (8*i)).take 8=row at*
  obtain⟨r0,r1,r2,r3,r4,r5,r6,r7,rfl⟩:=O3 hrl
  refine ak ?_
  refine AL (avy (i:=i) (m:=8) (vs:=[.int .i64 r0,.int .i64 r1,.int .i64 r2,.int .i64 r3,.int .i64 r4,.int .i64 r5,.int .i64 r6,.int .i64 r7]) O O O hlt hrow underlying104 IC KU) (Ea H O Vg fun p5 _ H=>wu ?_)
  clear H;refine ayJ fun _ H=>?_
  refine Au (Aw (Dn H 0 O O O KU IC (tV ?_)))
  replace H:=H.drop
  refine Ec (fun z f W=>∃(j:Nat) (OA:Option Addr) (oc:Nat),j≤8∧z=8-j∧f 3= .slice OA ((R.take (8*i+j)).filter (· ≠0)).length oc∧f 11= .agg (R.map (Value.int .i64)).toArray∧f 12= .int .i64 i∧f 15= .agg [.int .i64 r0,.int .i64 r1,.int .i64 r2,.int .i64 r3,.int .i64 r4,.int .i64 r5,.int .i64 r6,.int .i64 r7].toArray∧f 16= .int .i64 j∧Heap w [] [Dw 1 (.slice OA ((R.take (8*i+j)).filter (· ≠0)).length oc) ((R.take (8*i+j)).filter (· ≠0)).length (((R.take (8*i+j)).filter (· ≠0)).map (Value.int .i64)) 3] W) 8 ⟨0,OA,oc,Y,rfl,rfl,rfl,rfl,rfl,rfl,H⟩ ?_
  clear H
  rintro z f W ⟨j,OA,oc,hj,rfl,f3,f11,f12,f15,f16,H⟩
  obtain⟨f,rfl⟩:=Lr f3 f11 f12 f15 f16
  clear f3 f11 f12 f15 f16
  by_cases hjt:j<8
  ·have hx:=axn r0 r1 r2 r3 r4 r5 r6 r7 j hjt
   generalize [r0,r1,r2,r3,r4,r5,r6,r7].getD j 0=x at hx
   have hxc: [.int .i64 r0,.int .i64 r1,.int .i64 r2,.int .i64 r3,.int .i64 r4,.int .i64 r5,.int .i64 r6,.int .i64 r7][j]? =some (Value.int .i64 x):=by
    show([r0,r1,r2,r3,r4,r5,r6,r7].map (Value.int .i64))[j]? =_
    rw[BG,hx];rfl
   have hstep:R.take (8*i+(j+1))=R.take (8*i+j)++ [x]:=by
    rw[←Gs,←Jc (by rw[hget j hjt];exact hx)]
   by_cases h0:x=0
   ·subst h0
    have hf:(R.take (8*i+(j+1))).filter (· ≠0)=(R.take (8*i+j)).filter (· ≠0):=by rw[hstep];simp
    refine ak ?_
    refine AL (ad5 (i:=j) (v:= .int .i64 0) O O O hjt hxc underlying103 Kz GU) (vY ?_)
    exact⟨_,_,Y,rfl,j+1,OA,oc,Y,rfl,by rw[hf];rfl,rfl,rfl,rfl,rfl,by rw[hf];exact H⟩
   ·have hf:(R.take (8*i+(j+1))).filter (· ≠0)=(R.take (8*i+j)).filter (· ≠0)++ [x]:=by rw[hstep,List.filter_append];simp[h0]
    have hfl:((R.take (8*i+(j+1))).filter (· ≠0)).length=((R.take (8*i+j)).filter (· ≠0)).length+1:=by rw[hf,Cm];rfl
    have hb:((R.take (8*i+j)).filter (· ≠0)).length≤32:=F9 (O0 _ _) (by rw[Dy];omega)
    refine ak ?_
    refine AL (ad5 (i:=j) (v:= .int .i64 x) O O O hjt hxc underlying103 Kz GU) (oG ?_)
    refine AL (Hl O O Y) (Au (EI O (DR (CY O (Az O (lQ ?_))))))
    clear H;intro _ An cn _ H;simp only[Bv,Nat.reduceAdd]at H
    refine En O (vG ?_)
    rw[←hf,←hfl]at H
    exact⟨_,_,Y,rfl,j+1,_,_,Y,rfl,by rw[hfl];rfl,rfl,rfl,rfl,rfl,H⟩
  ·obtain rfl:j=8:=Y
   rw[show 8*i+8=8*(i+1)by omega]at H
   refine aF ?_
   refine aC ?_
   exact⟨_,_,Y,rfl,i+1,OA,oc,Y,rfl,by rw[show 8*(i+1)=8*i+8 by omega];rfl,rfl,rfl,H⟩
 ·obtain rfl:i=4:=Y
  rw[Ez (show R.length≤8*4 by omega)]at H
  rw[Ez (show R.length≤8*4 by omega)]
  refine uS ?_
  refine CY O (oZ ?_)
  exact⟨OA,oc,rfl,H⟩
end
end
end
section
section
open Go.RowKit
theorem Ob.ahk{c:List Int}(hw:Ob.SQ c){a:Int}(h:Ob.hd c a=true):0≤a∧a+(1+Ob.hp c a+Ob.hq c a)≤c.length:=by
 have hy:=Ob.abb h
 have hb:=Ob.agO (Nv.get c a) a (Ob.QG hw a).1
 have e1:Ob.hp c a=Oh.decP (Nv.get c a) a:=by unfold Ob.hp;rw[if_pos h]
 have e2:Ob.hq c a=Oh.Tt (Nv.get c a) a:=by unfold Ob.hq;rw[if_pos h]
 rw[(Cl.LY _ _ hb.1 hb.2.1 hb.2.2.1 hb.2.2.2).1]at hy
 rw[e1,e2]
 omega
theorem Ob.aiR{c:List Int}(hw:Ob.SQ c)(a:Int):Cl.size (Ob.hp c a) (Ob.hq c a)=1+Ob.hp c a+Ob.hq c a:=by
 have hb:=Ob.NG hw a
 rw[(Cl.LY _ _ hb.1 hb.2.1 hb.2.2.1 hb.2.2.2).1]
section
variable{g:Geo}{d:Nv.D}{m:Nat}{w:World}
theorem alV(hE:DW (Dz g d) w)(hD:Dv d m)(hm:m≤100000)(a i to:Int)(hh:Ob.hd d.cache a=true)(hi:0≤i∧i<Ob.hp d.cache a)(ht:0≤to∧to≤9223372036854775807):
 Calls prog 144 [ptr g.p,.int .i64 a,.int .i64 i,.int .i64 to].toArray w fun e w'=>∃d',Sto d d' m (a+(1+i)).toNat to∧e= .returned (.int .i64 0)∧Heap w (ids (Dz g d)) (Dz g d') w':=by
 have H:=GZ hE
 have hcl:=hD.len
 have hll:=Ob.ahk hD.U hh
 have hb:=Ob.NG hD.U a
 have hF:=fun{W:World} hE=>ajb (g:=g) (d:=d) (w:=W) hE hD.U Y a i hh hi
 obtain⟨x,hx⟩:=Bo (show 0≤a+(1+i)by omega)
 rw[hx,Bz]
 rw[hx]at hF
 obtain⟨d',hd,hst⟩:=hD.stored (a:=x) Y (v:=to) Y
 have hS:=fun{W:World} hE=>Ur (g:=g) (w:=W) hE hD hm hd
 refine BM 30 func144 O (Aw (rU ?_))
 refine Az O (BI H O (hF (H.Bl 0 O)) (aiN O) fun W1 H=>eH ?_)
 refine Au (AP (E8 (Aw (Az O (uF ?_)))))
 refine Aw (Az O (AL (CO O O Y) (uQ ?_)))
 refine jl ?_
 refine Az O (iC ?_)
 refine s_call O (hS (H.Bl 0 O)) (JM O) ?_
 rintro e W1 ⟨rfl,H'⟩
 refine⟨_,rfl,?_⟩
 have H:=H.DN 0 rfl H';clear H';simp only[Bv]at H
 refine fH ?_
 exact⟨d',hst,rfl,Iw H⟩
theorem akh(hE:DW (Dz g d) w)(hD:Dv d m)(hm:m≤100000)(a i v:Int)(hh:Ob.hd d.cache a=true)(hi:0≤i∧i<Ob.hq d.cache a)(hv:0≤v∧v≤18446744073709551615):
 Calls prog 145 [ptr g.p,.int .i64 a,.int .i64 i,.int .u64 v].toArray w fun e w'=>∃d',Sto d d' m (a+(1+Ob.hp d.cache a+i)).toNat v∧e= .returned (.int .i64 0)∧Heap w (ids (Dz g d)) (Dz g d') w':=by
 have H:=GZ hE
 have hcl:=hD.len
 have hll:=Ob.ahk hD.U hh
 have hb:=Ob.NG hD.U a
 have hF:=fun{W:World} hE=>afW (g:=g) (d:=d) (w:=W) hE hD.U Y a i hh hi
 obtain⟨x,hx⟩:=Bo (show 0≤a+(1+Ob.hp d.cache a+i)by omega)
 rw[hx,Bz]
 rw[hx]at hF
 obtain⟨d',hd,hst⟩:=hD.stored (a:=x) Y (v:=v) hv
 have hS:=fun{W:World} hE=>Ur (g:=g) (w:=W) hE hD hm hd
 refine BM 25 func145 O (Aw (rU ?_))
 refine Az O (BI H O (hF (H.Bl 0 O)) (aiN O) fun W1 H=>wQ ?_)
 refine jl ?_
 refine Az O (s_call O (hS (H.Bl 0 O)) (JM O) ?_)
 rintro e W1 ⟨rfl,H'⟩
 refine⟨_,rfl,?_⟩
 have H:=H.DN 0 rfl H';clear H';simp only[Bv]at H
 refine fH ?_
 exact⟨d',hst,rfl,Iw H⟩
theorem alR(hE:DW (Dz g d) w)(hw:Ob.SQ d.cache)(hl:d.cache.length≤1000000000)(a i:Int)(hh:Ob.hd d.cache a=true)(hi:0≤i∧i<Ob.hq d.cache a):
 Calls prog 140 [ptr g.p,.int .i64 a,.int .i64 i].toArray w fun e w'=>e= .returned (.tuple [.int .u64 (Nv.get d.cache (a+(1+Ob.hp d.cache a+i))),.int .i64 0].toArray)∧Only [] w w':=by
 have HR:=Heap.start hE
 have H:=Heap.nil w
 have hF:=fun{W:World} (h:Only [] w W)=>afW (HR.same h).ents hw hl a i hh hi
 generalize a+(1+Ob.hp d.cache a+i)=x at*
 have hG:=fun{W:World} (h:Only [] w W)=>ZQ g d x W (HR.same h).ents
 refine BM 23 func140 O (Aw (AQ O (rU ?_)))
 refine Az O (BI H O (hF H.only) (aiN O) fun W1 H=>wQ ?_)
 refine jl ?_
 refine BI H O (hG H.only) (RZ O) fun W1 H=>pI ?_
 exact⟨rfl,H.only⟩
theorem aj6(hE:DW (Dz g d) w)(hD:Dv d m)(hg:Wi g m)(hm:m≤100000)(a:Int)(hh:Ob.hd d.cache a=true):
 Calls prog 146 [ptr g.p,.int .i64 a].toArray w fun e w'=>∃d',Per d d' m a.toNat (1+Ob.hp d.cache a+Ob.hq d.cache a).toNat∧e= .returned (.int .i64 0)∧Heap w (ids (Dz g d)) (Dz g d') w':=by
 have H:=GZ hE
 have hcl:=hD.len
 have hll:=Ob.ahk hD.U hh
 have hb:=Ob.NG hD.U a
 have hF:=fun{W:World} hE=>YE (g:=g) (d:=d) (w:=W) hE hD.U Y a ⟨Y,Y⟩
 rw[show Ob.he d.cache a=0 by unfold Ob.he;rw[if_pos hh]]at hF
 have hSz:=fun(W:World)=>aex (Ob.hp d.cache a) (Ob.hq d.cache a) W Y Y
 rw[Ob.aiR hD.U]at hSz
 obtain⟨x,rfl⟩:=Bo (show 0≤a by omega)
 obtain⟨n,hn⟩:=Bo (show 0≤1+Ob.hp d.cache x+Ob.hq d.cache x by omega)
 rw[hn]at hSz hll
 rw[hn,Bz,Bz]
 obtain⟨d',hd,hst⟩:=hD.persisted (a:=x) (n:=n) Y
 have hS:=fun{W:World} hE=>Wl (g:=g) (w:=W) hE hD hg hm hd
 generalize Ob.hp d.cache x=p at*
 generalize Ob.hq d.cache x=q at*
 refine BM 21 func146 O (Aw (rU ?_))
 refine BI H O (hF (H.Bl 0 O)) (UK O) fun W1 H=>aO ?_
 refine Ea H O FK fun p5 _ H=>gX ?_
 clear H;refine ayJ fun _ H=>?_
 refine nR ?_
 refine jl ?_
 refine tZ ?_
 refine BI H O (hSz _) (Zn O) fun W1 H=>s_call O (hS (H.Bl 1 O)) (UL O) ?_
 rintro e W1 ⟨rfl,H'⟩
 refine⟨_,rfl,?_⟩
 have H:=H.DN 1 rfl H';clear H';simp only[Bv]at H
 refine fH ?_
 exact⟨d',hst,rfl,Iw H.drop⟩
end
end
end
section
section
open Go.RowKit
def gets(l:List Int):Nat→List Int
 |0=> []
 |k+1=>gets l k++ [Nv.get l (k:Int)]
theorem Yx(l:List Int):∀k,(gets l k).length=k
 |0=>rfl
 |k+1=>by rw[gets,Cm,Yx l k];rfl
theorem alv(l:List Int)(k:Nat)(hk:k<8):(gets l k++List.replicate (8-k) 0).set k (Nv.get l (k:Int))=gets l (k+1)++List.replicate (8-(k+1)) 0:=by
 rw[List.set_append,if_neg (by rw[Yx];omega),Yx,GX,show 8-k=(8-(k+1))+1 by omega,Fa,AZ,gets,DI]
 rfl
theorem amP(g:Geo)(d:Nv.D)(w:World)(hE:DW (Dz g d) w):
 Calls prog 236 [ptr g.p].toArray w fun e w'=>e= .returned (.agg ((gets d.cache 8).map (Value.int .u64)).toArray)∧Only [] w w':=by
 have HR:=Heap.start hE
 have H:=Heap.nil w
 refine BM 16 func236 O (Aw (Ea H O amc fun p2 _ H=>Au (Aw (Ea H O amc fun p3 _ H=>Au (fJ ?_)))))
 refine Au (E8 (Ec (fun z f W=>∃k:Nat,k≤8∧z=8-k∧f 0=ptr g.p∧f 2=ptr p2∧f 3=ptr p3∧f 5= .int .i64 k∧Heap w [] [blk p3 ((gets d.cache k++List.replicate (8-k) 0).map (Value.int .u64)) 245,blk p2 ((List.replicate 8 0).map (Value.int .u64)) 245] W) 8 ⟨0,Y,rfl,rfl,rfl,rfl,rfl,H⟩ ?_))
 clear H
 rintro z f W ⟨k,hk,rfl,f0,f2,f3,f5,H⟩
 obtain⟨f,rfl⟩:=Ih f0 f2 f3 f5
 clear f0 f2 f3 f5
 by_cases hlt:k<8
 ·obtain⟨c8,hv8⟩:∃c0,((gets d.cache k++List.replicate (8-k) 0).map (Value.int .u64))[k]? =some c0:=⟨_,Ar (by rw[Ci,Cm,Yx,CV];omega)⟩
  refine lW ?_
  refine AQ O (Au (DR (Az O (BF O (nI ?_)))))
  refine BI H O (ZQ g d (0+(k:Int)) _ (HR.same H.only).ents) (RZ O) fun W1 H=>AL (OY (i:=k) O O Y Y underlying245 GV) (Ic (u:= .int _ _) H 0 O O O O hv8 O GV ?_)
  clear H;refine ayJ fun _ H=>?_
  refine vG ?_
  rw[Int.zero_add,←Gy,alv d.cache k hlt]at H
  refine⟨_,_,?_,rfl,k+1,Y,rfl,rfl,rfl,rfl,rfl,H⟩
  omega
 ·obtain rfl:k=8:=Y
  refine uS ?_
  refine Dn H 0 O O O aqb anG (Eh H 1 O O O O O O O anG ?_)
  clear H;refine ayJ fun _ H=>?_
  refine Au (BH (ZP O (IG H 1 O O O aqb anG) ?_))
  exact⟨rfl,H.only⟩
end
end
section
section
open Go.RowKit
theorem YD(b:Int)(w:World)(h:0≤b∧b≤1000000):
 Calls prog 33 [.agg [.int .i64 b].toArray].toArray w fun e w'=>e= .returned (.int .i64 (b*512))∧Only [] w w':=by
 have H:=Heap.nil w
 refine BM 6 func33 O (Aw (DU H O O fun p1 _ H=>nG ?_))
 refine BR O Ou (mQ ?_)
 refine AL (Yf O O (wI Y)) (fH ?_)
 exact⟨rfl,H.only⟩
structure ar8 (ls:List Int) (B N E:Int):Prop where
 call:∀w:World,Calls prog 235 [.agg (ls.map (Value.int .u64)).toArray].toArray w fun e w'=>e= .returned (.tuple #[.agg [.int .i64 B,.int .u64 N].toArray,.int .i64 E])∧Only [] w w'
 bd:0≤B∧B≤256
theorem atV(g:Geo)(d:Nv.D)(B N E:Int)(w:World)(hE:DW (Dz g d) w)(hD:ar8 (gets d.cache 8) B N E):
 Calls prog 172 [ptr g.p].toArray w fun e w'=>e= .returned (.tuple #[.agg (if E=0∧B*512=d.cache.length then [.int .i64 B,.int .u64 N]else [.int .i64 0,.int .u64 0]).toArray,.int .i64 (if E=0∧B*512=d.cache.length then 0 else 20)])∧Only [] w w':=by
 have HR:=Heap.start hE
 have H:=Heap.nil w
 have hb:=hD.bd
 by_cases h0:E=0
 ·subst h0
  by_cases h1:B*512=d.cache.length
  ·rw[if_pos ⟨rfl,h1⟩,if_pos ⟨rfl,h1⟩]
   refine BM 25 func172 O (Aw (Ea H O Xt fun p2 _ H=>nV ?_))
   refine BI H O (amP g d _ (HR.same H.only).ents) (ang O) fun W1 H=>BI H O (hD.call _) (alp O) fun W1 H=>aO ?_
   refine Ea H O Xt fun p4 _ H=>Eh H 0 O O O O O O O TA ?_
   clear H;refine ayJ fun _ H=>?_
   refine qO ?_
   rintro e W1 ⟨rfl,H'⟩
   refine⟨_,rfl,?_⟩
   have H:=H.same H';clear H'
   refine AX 14 O (MQ O) (s_call (EP 14 Ak O) (Ze g d _ (HR.same H.only).ents) (PV O) ?_)
   rintro e W1 ⟨rfl,H'⟩
   refine⟨_,rfl,?_⟩
   have H:=H.same H';clear H'
   refine AX 14 O (Dc O O Y) (fE ?_)
   refine Aw (Dn H 0 O O O adh TA (Eh H 1 O O O O O O O TA ?_))
   clear H;refine ayJ fun _ H=>?_
   refine AQ O (Au (BH (NJ O (IG H 1 O O O adh TA) (Jp (v:= .int _ _) O) ?_)))
   exact⟨rfl,H.only⟩
  ·rw[if_neg (fun h=>h1 h.2),if_neg (fun h=>h1 h.2)]
   refine BM 25 func172 O (Aw (Ea H O Xt fun p2 _ H=>nV ?_))
   refine BI H O (amP g d _ (HR.same H.only).ents) (ang O) fun W1 H=>BI H O (hD.call _) (alp O) fun W1 H=>aO ?_
   refine Ea H O Xt fun p4 _ H=>Eh H 0 O O O O O O O TA ?_
   clear H;refine ayJ fun _ H=>?_
   refine qO ?_
   rintro e W1 ⟨rfl,H'⟩
   refine⟨_,rfl,?_⟩
   have H:=H.same H';clear H'
   refine AX 14 O (MQ O) (s_call (EP 14 Ak O) (Ze g d _ (HR.same H.only).ents) (PV O) ?_)
   rintro e W1 ⟨rfl,H'⟩
   refine⟨_,rfl,?_⟩
   have H:=H.same H';clear H'
   refine AX 14 O (Hl O O Y) (Dp O O (ql ?_))
   refine AL (FP (apR) O) (Eh H 1 O O O O O O O TA ?_)
   clear H;refine ayJ fun _ H=>?_
   refine oL ?_
   refine NJ O (IG H 1 O O O adh TA) (Jp (v:= .int _ _) O) ?_
   exact⟨rfl,H.only⟩
 ·rw[if_neg (fun h=>h0 h.1),if_neg (fun h=>h0 h.1)]
  refine BM 25 func172 O (Aw (Ea H O Xt fun p2 _ H=>nV ?_))
  refine BI H O (amP g d _ (HR.same H.only).ents) (ang O) fun W1 H=>BI H O (hD.call _) (alp O) fun W1 H=>aO ?_
  refine Ea H O Xt fun p4 _ H=>Eh H 0 O O O O O O O TA ?_
  clear H;refine ayJ fun _ H=>?_
  refine jk ?_
  refine AL (Hl O O Y) (BL O (vS ?_))
  refine vS ?_
  refine Cc 14 O O (ED O O (ql ?_))
  refine AL (FP (apR) O) (Eh H 1 O O O O O O O TA ?_)
  clear H;refine ayJ fun _ H=>?_
  refine oL ?_
  refine NJ O (IG H 1 O O O adh TA) (Jp (v:= .int _ _) O) ?_
  exact⟨rfl,H.only⟩
end
end
section
section
open Go.RowKit
end
end
section
section
open Go.RowKit
end
end
section
section
open Go.RowKit
end
end
section
section
open Go.RowKit
end
end
section
section
open Nv
theorem VY(l:List Int)(a:Nat):∀k,EL l a k=(List.range k).map fun(i:Nat)=>Nv.get l ((a:Int)+(i:Int))
 |0=>rfl
 |k+1=>by rw[LW,BU,←VY l a k];rfl
theorem alA(l ws:List Int)(a:Nat)(ha:a+16≤l.length)(hw:ws.length=16)(h:∀i,i<16→l.getD (a+i) 0=ws.getD i 0):EL l a 16=ws:=by
 rw[VY]
 apply FU (by simp[hw])
 intro i h1 h2
 rw[Hr,J7]
 have hi:i<16:=by simpa using h1
 unfold Nv.get
 rw[if_pos Y,show((a:Int)+(i:Int)).toNat=a+i by omega,h i hi]
 simp[List.getD,Ar h2]
theorem aa7(l:List Int)(a i:Nat)(ha:a+16≤l.length)(hi:i<16):(EL l a 16).getD i 0=l.getD (a+i) 0:=by
 rw[VY]
 simp only[List.getD]
 rw[BG,FD hi]
 show Nv.get l _=_
 unfold Nv.get
 rw[if_pos Y,show((a:Int)+(i:Int)).toNat=a+i by omega]
 rfl
structure Sl (d:Nv.D) (k:Nat) (z:List Int):Prop where
 a:Ln d (8+8*k) (fun x=>z.getD (x-(64+64*k)) 0)
 b:Ln d (9+8*k) (fun x=>z.getD (x-(64+64*k)) 0)
variable{d:Nv.D}{k:Nat}{z:List Int}
theorem Sl.gets(h:Sl d k z)(hl:d.cache.length=512)(hk:k=0∨k=1)(hz:z.length=16):EL d.cache (64+64*k) 16=z:=by
 refine alA _ _ _ Y hz fun i hi=>?_
 by_cases h8:i<8
 ·have:=h.a.va (64+64*k+i) Y
  rw[this];show z.getD (64+64*k+i-(64+64*k)) 0=_
  rw[show 64+64*k+i-(64+64*k)=i by omega]
 ·have:=h.b.va (64+64*k+i) Y
  rw[this];show z.getD (64+64*k+i-(64+64*k)) 0=_
  rw[show 64+64*k+i-(64+64*k)=i by omega]
theorem Sl.keep(h:Sl d k z)(hI:Inv d 64)(hk:k=0∨k=1)(E:Int)(ws:List Int):Sl (cm d 64 E k ws).1 k z:=
 ⟨h.a.cm hI E k ws (fun i hi=>Y),h.b.cm hI E k ws (fun i hi=>Y)⟩
theorem Sl.wr(hI:Inv d 64)(ws:List Int)(hk:k=0∨k=1)(h:(Nv.wr d 64 (64+64*k) ws).2=0):Sl (Nv.wr d 64 (64+64*k) ws).1 k ws:=by
 have hw:=fun i hi=>anh hI h i hi
 refine⟨⟨?_,fun x hx=>?_⟩,⟨?_,fun x hx=>?_⟩⟩
 ·have:=(hw 0 Y).2
  rwa [show(64+64*k+0)/8=8+8*k by omega]at this
 ·have:=(hw (x-(64+64*k)) Y).1
  rwa [show 64+64*k+(x-(64+64*k))=x by omega]at this
 ·have:=(hw 8 Y).2
  rwa [show(64+64*k+8)/8=9+8*k by omega]at this
 ·have:=(hw (x-(64+64*k)) Y).1
  rwa [show 64+64*k+(x-(64+64*k))=x by omega]at this
theorem Sl.new(hI:Inv d 64)(E:Int)(ws:List Int)(hk:k=0∨k=1)(h:(cm d 64 E k ws).2=0):Sl (cm d 64 E k ws).1 (1-k) ws:=by
 unfold Nv.cm at h⊢
 split
 ·rename_i hb;rw[if_pos hb]at h;cases h
 rename_i hb
 rw[if_neg hb]at h
 split
 ·rename_i hz
  rw[if_pos hz]at h
  exact Sl.wr (hI.wi _ E) ws Y h
 ·rename_i hz
  rw[if_neg hz]at h;exact absurd h hz
theorem acM(n j:Nat):(List.replicate n false).getD j false=false:=by
 simp only[List.getD,D7]
 split<;>rfl
theorem Sl.load{ws:List Int}(hw:ws.length=512)(hk:k=0∨k=1):Sl (Nv.load ws 64) k (EL ws (64+64*k) 16):=by
 have hc:∀j,(Nv.load ws 64).dirty.getD j false=false:=fun j=>by
  exact acM 64 j
 refine⟨⟨hc _,fun x hx=>?_⟩,⟨hc _,fun x hx=>?_⟩⟩
 ·show ws.getD x 0=(EL ws (64+64*k) 16).getD (x-(64+64*k)) 0
  rw[aa7 _ _ _ Y Y,show 64+64*k+(x-(64+64*k))=x by omega]
 ·show ws.getD x 0=(EL ws (64+64*k) 16).getD (x-(64+64*k)) 0
  rw[aa7 _ _ _ Y Y,show 64+64*k+(x-(64+64*k))=x by omega]
def Rts(R:List Int):Prop:=R.length=8∧St.okR R
theorem Rts.i64{R:List Int}(h:Rts R):∀r∈R,I64 r:=fun r hr=>by
 have:=h.2 r hr
 exact⟨Y,Y⟩
theorem atJ{z:List Int}(hz:z.length=16)(hU:Im.U z)(h:dC z=0):0<XG z∧XG z≤18446744073709551615∧Rts (dVR z):=by
 have hd:XG z=dE z∧dVR z=dR z:=by unfold XG dVR;rw[if_pos h,if_pos h];exact⟨rfl,rfl⟩
 rw[hd.1,hd.2]
 obtain⟨l0,l1,l2,l3,l4,l5,l6,l7,l8,l9,l10,Ht,l12,I7,I9,l15,rfl⟩:=aeo hz
 unfold dC at h
 simp only[]at h
 split at h
 ·cases h
 split at h
 ·cases h
 split at h
 ·rename_i ho
  have h1:=ho.1
  unfold St.Fh at h1
  have h2:=of_decide_eq_true h1
  have h0:=hU l0 J
  exact⟨h2.2,h0.2,rfl,h2.1⟩
 ·cases h
open Classical in
theorem Qx(E:Int)(R:List Int)(hE:0<E)(hR:Rts R):dC (KL E R)=0∧XG (KL E R)=E∧dVR (KL E R)=R:=by
 obtain⟨r0,r1,r2,r3,r4,r5,r6,r7,rfl⟩:=O3 hR.1
 have hr:=St.FY E [r0,r1,r2,r3,r4,r5,r6,r7] hR.2 hE
 have e:KL E [r0,r1,r2,r3,r4,r5,r6,r7]=[E,r0,r1,r2,r3,0,0,St.Q8 E r0 r1 r2 r3,E,r4,r5,r6,r7,1,0,St.Rw E r4 r5 r6 r7]:=by
  show(if St.Fh E [r0,r1,r2,r3,r4,r5,r6,r7]=true then _ else _)=_
  rw[if_pos hr]
 rw[e]
 have h:dC [E,r0,r1,r2,r3,0,0,St.Q8 E r0 r1 r2 r3,E,r4,r5,r6,r7,1,0,St.Rw E r4 r5 r6 r7]=0:=by
  have a1:St.Q8 E r0 r1 r2 r3=St.Es E r0 r1 r2 r3 0 0:=rfl
  have a2:St.Rw E r4 r5 r6 r7=St.Es E r4 r5 r6 r7 1 0:=rfl
  simp only[dC,←a1,←a2,ne_eq,not_true_eq_false,if_false]
  rw[if_pos]
  exact⟨hr,rfl,rfl,rfl,rfl,rfl⟩
 refine⟨h,?_,?_⟩
 ·unfold XG;rw[if_pos h];rfl
 ·unfold dVR;rw[if_pos h];rfl
theorem apV(E:Int)(R:List Int)(hE:FX E):Im.U (KL E R):=by
 unfold KL
 split
 ·rename_i r0 r1 r2 r3 r4 r5 r6 r7
  split
  ·rename_i h
   obtain⟨h0,h1,h2,h3,h4,h5,h6,h7,h8⟩:=abx h
   have s0:=St.aiF E r0 r1 r2 r3
   have s1:=St.ai7 E r4 r5 r6 r7
   unfold FX at hE
   intro x hx
   simp only[Dq,Ho,or_false]at hx
   rcases hx with rfl|rfl|rfl|rfl|rfl|rfl|rfl|rfl|rfl|rfl|rfl|rfl|rfl|rfl|rfl|rfl<;>omega
  ·intro x hx
   simp only[Dq,Ho,or_false,or_self]at hx
   omega
 ·intro x hx
  simp only[Dq,Ho,or_false,or_self]at hx
  omega
theorem an6:dC [0,0,0,0,0,0,0,0,0,0,0,0,0,0,0,0]≠0:=fun h=>by
 have h1:=(atJ rfl (by intro x hx;simp at hx;omega) h).1
 unfold XG at h1
 rw[if_pos h]at h1
 exact absurd (show(0:Int)<0 from h1) Ae
structure RG (d:Nv.D) (E:Int) (R:List Int) (k:Nat) (V:List Int):Prop where
 inv:Inv d 64
 ud:Ud d
 kk:k=0∨k=1
 sl:∃z:List Int,z.length=16∧Sl d k z∧dC z=0
 E0:0<E
 E1:E≤18446744073709551615
 hR:Rts R
 hV:Rts V
theorem RG.len{d:Nv.D}{E:Int}{R V:List Int}{k:Nat}(h:RG d E R k V):d.cache.length=512:=by rw[h.inv.ok.hc]
theorem RG.set{d:Nv.D}{E:Int}{R V:List Int}{k:Nat}(h:RG d E R k V)(i:Nat)(v:Int)(hv:0≤v∧v<131072):RG d E R k (V.set i v):=
 {h with hV:=⟨by rw[He];exact h.hV.1,fun x hx=>by
  rcases E5 hx with h1|h1
  ·exact h.hV.2 x h1
  ·rw[h1];omega⟩}
theorem RG.back{d:Nv.D}{E:Int}{R V:List Int}{k:Nat}(h:RG d E R k V):RG d E R k R:={h with hV:=h.hR}
end
end
end Go.Proofs.YtppilhpcmkekbaaGreat
