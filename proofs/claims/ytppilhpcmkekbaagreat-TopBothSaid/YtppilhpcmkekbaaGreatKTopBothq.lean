/- Parts of the proof. -/
import Derived.Test.YtppilhpcmkekbaaGreatKTopBothp
set_option linter.unusedSimpArgs false
set_option linter.unusedVariables false
set_option linter.unusedSectionVars false
set_option maxRecDepth 100000
set_option maxHeartbeats 16000000
namespace Go.Proofs.YtppilhpcmkekbaaGreat
open Go.Proofs.Tryz
section
section
open Go.RowKit
theorem an7(t:Nat)(g:Geo)(d:Nv.D)(m k:Nat)(E:Int)(R V:List Int)(w:World)(hE:Dj [blk t (Me g.p E R k V) 220,grp (Dy g d)] w)(hI:Nv.Inv d m)(hg:Q5 g m)(hm:m≤100000)(hk:k=0∨k=1)(hEp:FT E)(hR:R.length=8)(hV:V.length=8)(hVi:∀r∈V,I64 r):
 Calls prog 111 [ptr t].toArray w fun e w'=>e= .returned (.int .i64 (Nv.cm d m E k (J3 (E+1) V)).2)∧
  Heap w (ids [blk t (Me g.p E R k V) 220,grp (Dy g d)]) [blk t (if(Nv.cm d m E k (J3 (E+1) V)).2=0 then Me g.p (E+1) V ((1-k:Nat):Int) V else Me g.p E R k V) 220,grp (Dy g (Nv.cm d m E k (J3 (E+1) V)).1)] w':=by
 have H:=Heap.start hE
 generalize ids [blk t (Me g.p E R k V) 220,grp (Dy g d)]=FF at*
 have hko:1-k=0∨1-k=1:=Y
 have hk1:(1:Int)-(k:Int)=((1-k:Nat):Int):=Y
 obtain⟨r0,r1,r2,r3,r4,r5,r6,r7,rfl⟩:=Nu hR
 obtain⟨v0,v1,v2,v3,v4,v5,v6,v7,rfl⟩:=Nu hV
 by_cases hbig:1152921504606846976≤E
 ·have e:Nv.cm d m E k (J3 (E+1) [v0,v1,v2,v3,v4,v5,v6,v7])=(d,26):=by unfold Nv.cm;rw[if_pos hbig]
  rw[e,if_neg (show¬((26:Int)=0)by decide)]
  rw[agy]at H⊢
  refine oZ ?_
  refine AV (GI O O Y) (gG ?_)
  exact⟨rfl,H⟩
 have hWi:=fun W hE=>avl t g d m (1-k) E k [r0,r1,r2,r3,r4,r5,r6,r7] [v0,v1,v2,v3,v4,v5,v6,v7] W hE hI hg hm hko
 have hI1:=hI.wi (64+64*(1-k)) E
 have Xh:=fun W hE=>ak0 g (Nv.wi d m (64+64*(1-k)) E).1 m (1-k) (E+1) [v0,v1,v2,v3,v4,v5,v6,v7] W hE hI1 hg hm hko rfl ⟨by have:=hEp.1;omega,Y⟩ hVi
 simp only[DJ,Ef]at Xh
 have hU:=hEp
 unfold FT at hU
 rw[agy]at H hWi
 by_cases hw:(Nv.wi d m (64+64*(1-k)) E).2=0
 ·have e:Nv.cm d m E k (J3 (E+1) [v0,v1,v2,v3,v4,v5,v6,v7])=Nv.wr (Nv.wi d m (64+64*(1-k)) E).1 m (64+64*(1-k)) (J3 (E+1) [v0,v1,v2,v3,v4,v5,v6,v7]):=by unfold Nv.cm;rw[if_neg hbig,if_pos hw]
  rw[e]
  rw[hw]at hWi
  generalize Nv.wr (Nv.wi d m (64+64*(1-k)) E).1 m (64+64*(1-k)) (J3 (E+1) [v0,v1,v2,v3,v4,v5,v6,v7])=X at*
  generalize(Nv.wi d m (64+64*(1-k)) E).1=D1 at*
  refine oZ ?_
  refine AV (Fz O O Y) (dK ?_)
  refine A8 ?_
  refine Gl (fun f W=>∃p3,f 0=ptr t∧f 3=ptr p3∧Heap w FF [blk p3 [.int .u64 (E+1),.int .i64 v0,.int .i64 v1,.int .i64 v2,.int .i64 v3,.int .i64 v4,.int .i64 v5,.int .i64 v6,.int .i64 v7] 214,blk t [ptr g.p,.int .u64 E,.int .i64 r0,.int .i64 r1,.int .i64 r2,.int .i64 r3,.int .i64 r4,.int .i64 r5,.int .i64 r6,.int .i64 r7,.int .i64 k,.int .i64 v0,.int .i64 v1,.int .i64 v2,.int .i64 v3,.int .i64 v4,.int .i64 v5,.int .i64 v6,.int .i64 v7] 220,grp (Dy g d)] W) ?_ ?_
  ·refine G5 mixed ?_;replace H:=H.drew
   refine jm ?_
   refine Vw 4 9 11 Aw ?_ ?_ ?_
   ·refine CB O (BG H 0 O O O Gh (fE ?_))
    refine Et 9 11 ?_ ?_
    ·refine CB O (AV Au (ak ?_))
     refine kZ ?_
     refine Ei H O IQ fun p3 _ H=>ak ?_
     refine BD 12 O (jQ ?_)
     clear H;refine axS fun _ H=>?_
     refine kJ ?_
     exact⟨_,rfl,rfl,H⟩
    ·refine CB O (Ei H O IQ fun p3 _ H=>sU ?_)
     refine AV Au (ak ?_)
     refine bQ ?_
     clear H;refine axS fun _ H=>?_
     refine kJ ?_
     exact⟨_,rfl,rfl,H⟩
   ·refine CB O (AV Au (ak ?_))
    refine Et 4 11 ?_ ?_
    ·refine CB O (BG H 0 O O O Gh (fE ?_))
     refine kZ ?_
     refine Ei H O IQ fun p3 _ H=>ak ?_
     refine BD 12 O (jQ ?_)
     clear H;refine axS fun _ H=>?_
     refine kJ ?_
     exact⟨_,rfl,rfl,H⟩
    ·refine CB O (Ei H O IQ fun p3 _ H=>oU ?_)
     clear H;refine axS fun _ H=>?_
     refine kJ ?_
     exact⟨_,rfl,rfl,H⟩
   ·refine CB O (Ei H O IQ fun p3 _ H=>ak ?_)
    refine Et 4 9 ?_ ?_
    ·refine CB O (BG H 1 O O O Gh (fE ?_))
     refine BD 9 O (AV Au (ak ?_))
     refine bQ ?_
     clear H;refine axS fun _ H=>?_
     refine kJ ?_
     exact⟨_,rfl,rfl,H⟩
    ·refine CB O (AV Au (oU ?_))
     clear H;refine axS fun _ H=>?_
     refine kJ ?_
     exact⟨_,rfl,rfl,H⟩
  clear H
  rintro f W ⟨p3,f0,f3,H⟩
  obtain⟨f,rfl⟩:=LZ f0 f3
  clear f0 f3
  by_cases hx:X.2=0
  ·rw[if_pos hx]
   rw[hx]at Xh⊢
   refine AX (dL ?_)
   refine BI O Xo (BG H 1 O O O FM ?_)
   refine Hu O O (Gu (c:=((1-k:Nat):Int)) O O (by rw[hk1];exact wI Y)) ?_
   refine xE ?_
   rintro e W1 ⟨rfl,H'⟩
   refine⟨_,rfl,?_⟩
   have H1:Heap w FF ([blk t _ _,grp _]++ [blk p3 _ _]) _:=Heap.step (A:=[blk t _ _,grp _]) (L:=[blk p3 _ _]) ((H.pick 1 rfl).perm (.cons _ (.swap _ _ _))) H' (fun i hi=>hi);clear H H';have H:=H1.pick 2 rfl;clear H1;simp only[EL,Ey,FD,FH]at H
   refine AY O (AO (qw ?_))
   refine G5 mixed ?_;replace H:=H.drew
   refine aN ?_
   refine EC 2 O O O (fun _ hS=>Cm O Na) trivial (iW ?_)
   refine Et 3 5 ?_ ?_
   ·refine CB O (BG H 1 O O O J7 (oW ?_))
    refine Dw H 0 O O O PD GN (qF ?_)
    rintro e W1 ⟨rfl,H'⟩
    refine⟨_,rfl,?_⟩
    have H1:=H.CX 2 rfl H';clear H H';have H:=H1;clear H1;simp only[Bd,Bf]at H
    refine vk ?_
    clear H;refine axS fun _ H=>?_
    refine BU O (BI O Xo (Ik (u:= .int _ _) H 1 O O O O O O Ji ?_))
    clear H;refine axS fun _ H=>?_
    refine AO (uP ?_)
    rw[agy]
    exact⟨rfl,H.drop⟩
   ·refine CB O (Dw H 0 O O O PD GN (lY ?_))
    refine BG H 1 O O O J7 (qF ?_)
    rintro e W1 ⟨rfl,H'⟩
    refine⟨_,rfl,?_⟩
    have H1:=H.CX 2 rfl H';clear H H';have H:=H1;clear H1;simp only[Bd,Bf]at H
    refine vk ?_
    clear H;refine axS fun _ H=>?_
    refine BU O (BI O Xo (Ik (u:= .int _ _) H 1 O O O O O O Ji ?_))
    clear H;refine axS fun _ H=>?_
    refine AO (uP ?_)
    rw[agy]
    exact⟨rfl,H.drop⟩
  ·rw[if_neg hx,agy]
   refine AX (dL ?_)
   refine BI O Xo (BG H 1 O O O FM ?_)
   refine Hu O O (Gu (c:=((1-k:Nat):Int)) O O (by rw[hk1];exact wI Y)) ?_
   refine xE ?_
   rintro e W1 ⟨rfl,H'⟩
   refine⟨_,rfl,?_⟩
   have H1:Heap w FF ([blk t _ _,grp _]++ [blk p3 _ _]) _:=Heap.step (A:=[blk t _ _,grp _]) (L:=[blk p3 _ _]) ((H.pick 1 rfl).perm (.cons _ (.swap _ _ _))) H' (fun i hi=>hi);clear H H';have H:=H1.pick 2 rfl;clear H1;simp only[EL,Ey,FD,FH]at H
   refine AY O (AO (qw ?_))
   refine G5 mixed ?_;replace H:=H.drew
   refine aN ?_
   refine EC 2 O O O (fun _ hS=>Cm O Na) trivial (iW ?_)
   refine Et 3 5 ?_ ?_
   ·refine CB O (BG H 1 O O O J7 (oW ?_))
    refine Dw H 0 O O O PD GN (qF ?_)
    rintro e W1 ⟨rfl,H'⟩
    refine⟨_,rfl,?_⟩
    have H1:=H.CX 2 rfl H';clear H H';have H:=H1;clear H1;simp only[Bd,Bf]at H
    refine iw ?_
    refine lJ ?_
    refine BM (Dx (aK ?_))
    exact⟨rfl,H.drop⟩
   ·refine CB O (Dw H 0 O O O PD GN (lY ?_))
    refine BG H 1 O O O J7 (qF ?_)
    rintro e W1 ⟨rfl,H'⟩
    refine⟨_,rfl,?_⟩
    have H1:=H.CX 2 rfl H';clear H H';have H:=H1;clear H1;simp only[Bd,Bf]at H
    refine iw ?_
    refine lJ ?_
    refine BM (Dx (aK ?_))
    exact⟨rfl,H.drop⟩
 ·have e:Nv.cm d m E k (J3 (E+1) [v0,v1,v2,v3,v4,v5,v6,v7])=Nv.wi d m (64+64*(1-k)) E:=by unfold Nv.cm;rw[if_neg hbig,if_neg hw]
  rw[e,if_neg hw,agy]
  generalize Nv.wi d m (64+64*(1-k)) E=X at*
  refine oZ ?_
  refine AV (Fz O O Y) (dK ?_)
  refine A8 ?_
  refine Gl (fun f W=>∃p3,f 0=ptr t∧f 3=ptr p3∧Heap w FF [blk p3 [.int .u64 (E+1),.int .i64 v0,.int .i64 v1,.int .i64 v2,.int .i64 v3,.int .i64 v4,.int .i64 v5,.int .i64 v6,.int .i64 v7] 214,blk t [ptr g.p,.int .u64 E,.int .i64 r0,.int .i64 r1,.int .i64 r2,.int .i64 r3,.int .i64 r4,.int .i64 r5,.int .i64 r6,.int .i64 r7,.int .i64 k,.int .i64 v0,.int .i64 v1,.int .i64 v2,.int .i64 v3,.int .i64 v4,.int .i64 v5,.int .i64 v6,.int .i64 v7] 220,grp (Dy g d)] W) ?_ ?_
  ·refine G5 mixed ?_;replace H:=H.drew
   refine jm ?_
   refine Vw 4 9 11 Aw ?_ ?_ ?_
   ·refine CB O (BG H 0 O O O Gh (fE ?_))
    refine Et 9 11 ?_ ?_
    ·refine CB O (AV Au (ak ?_))
     refine kZ ?_
     refine Ei H O IQ fun p3 _ H=>ak ?_
     refine BD 12 O (jQ ?_)
     clear H;refine axS fun _ H=>?_
     refine kJ ?_
     exact⟨_,rfl,rfl,H⟩
    ·refine CB O (Ei H O IQ fun p3 _ H=>sU ?_)
     refine AV Au (ak ?_)
     refine bQ ?_
     clear H;refine axS fun _ H=>?_
     refine kJ ?_
     exact⟨_,rfl,rfl,H⟩
   ·refine CB O (AV Au (ak ?_))
    refine Et 4 11 ?_ ?_
    ·refine CB O (BG H 0 O O O Gh (fE ?_))
     refine kZ ?_
     refine Ei H O IQ fun p3 _ H=>ak ?_
     refine BD 12 O (jQ ?_)
     clear H;refine axS fun _ H=>?_
     refine kJ ?_
     exact⟨_,rfl,rfl,H⟩
    ·refine CB O (Ei H O IQ fun p3 _ H=>oU ?_)
     clear H;refine axS fun _ H=>?_
     refine kJ ?_
     exact⟨_,rfl,rfl,H⟩
   ·refine CB O (Ei H O IQ fun p3 _ H=>ak ?_)
    refine Et 4 9 ?_ ?_
    ·refine CB O (BG H 1 O O O Gh (fE ?_))
     refine BD 9 O (AV Au (ak ?_))
     refine bQ ?_
     clear H;refine axS fun _ H=>?_
     refine kJ ?_
     exact⟨_,rfl,rfl,H⟩
    ·refine CB O (AV Au (oU ?_))
     clear H;refine axS fun _ H=>?_
     refine kJ ?_
     exact⟨_,rfl,rfl,H⟩
  clear H
  rintro f W ⟨p3,f0,f3,H⟩
  obtain⟨f,rfl⟩:=LZ f0 f3
  clear f0 f3
  refine AX (dL ?_)
  refine BI O Xo (BG H 1 O O O FM ?_)
  refine Hu O O (Gu (c:=((1-k:Nat):Int)) O O (by rw[hk1];exact wI Y)) ?_
  refine xE ?_
  rintro e W1 ⟨rfl,H'⟩
  refine⟨_,rfl,?_⟩
  have H1:Heap w FF ([blk t _ _,grp _]++ [blk p3 _ _]) _:=Heap.step (A:=[blk t _ _,grp _]) (L:=[blk p3 _ _]) ((H.pick 1 rfl).perm (.cons _ (.swap _ _ _))) H' (fun i hi=>hi);clear H H';have H:=H1.pick 2 rfl;clear H1;simp only[EL,Ey,FD,FH]at H
  refine AY O (AO (lJ ?_))
  refine BM (Dx (aK ?_))
  exact⟨rfl,H.drop⟩
end
end
section
section
open Go.RowKit
section
variable{P:Program}{n:Sz}{f:Nat→Value}{W:World}{dst:Option Tmp}{ty:TypeId}{pos:String}{af:Array Edge}{g:Option (Nat×Bool)}{x y:Operand}{t e:TypeId}
theorem atK{k:IntKind}{l i m:Nat}{a:Int}{cs:List Value}(hx:ev n f x= .agg cs.toArray)(hy:ev n f y= .int k a)(ha:a=(i:Int))(hi:i<l){vs:List Value}(hv:(cs.drop (i*m)).take m=vs)(h:P.underlying t=some (.array l e))(hm:∀W,(Go.sizeOf e).run P W= .ok m W)(hagg:∀W,(isAgg e).run P W= .ok true W):
 (execOp (ev n f) ⟨dst,.index t x y,ty,pos,af,g⟩).run P W= .ok (.value (.agg vs.toArray)) W:=by
 subst ha
 subst hv
 have h1:(0:Int)≤i∧(i:Int)<l:=Y
 simp only[execOp,Instr.index,hx,hy,asIntOf,Sem.run_bind,run_underlying h,Result.andThen_ok,Sem.run_pure,h1,and_self,if_true,hm,BJ,part,hagg,IK,if_false]
 rw[show cs.toArray.extract (i*m) (i*m+m)=((cs.drop (i*m)).take m).toArray by rw[List.extract_toArray,List.extract_eq_take_drop,N7]]
end
def hpC(p pA t:Nat)(R:List Int)(Og pC Oi:Nat):List Value:=ptr p::ptr pA::ptr t::(R.map (Value.int .i64)++ [ptr Og,ptr pC,pt Oi,.bool false])
theorem akE{p pA t:Nat}{R:List Int}{Og pC Oi:Nat}(i:Nat)(hi:i<R.length):(hpC p pA t R Og pC Oi)[3+i]? =some (.int .i64 (R.getD i 0)):=by
 unfold hpC
 rw[show 3+i=i+1+1+1 by omega,E5,E5,E5,Gs zZ,Cb,Ba hi,BN,Ba hi]
 rfl
theorem arq{p pA t:Nat}{R:List Int}{Og pC Oi:Nat}(i:Nat)(hi:i<R.length)(v:Int):(hpC p pA t R Og pC Oi).set (3+i) (.int .i64 v)=hpC p pA t (R.set i v) Og pC Oi:=by
 unfold hpC
 rw[show 3+i=i+1+1+1 by omega,Bd,Bd,Bd,List.set_append_left _ _ zZ,G7]
theorem aaq{p pA t:Nat}{R:List Int}{Og pC Oi:Nat}(h:R.length=32)(k:Nat):(hpC p pA t R Og pC Oi)[35+k]? =[ptr Og,ptr pC,pt Oi,.bool false][k]? :=by
 unfold hpC
 rw[show 35+k=(32+k)+1+1+1 by omega,E5,E5,E5,Em (by rw[DL];omega),DL,h,N7]
section
variable{b p pA t Og pC Oi:Nat}{R:List Int}{w:World}
theorem Yf(m r:Nat)(w:World)(hm:m<4)(hr:r<8):Calls prog 91 [.agg [.int .i64 m,.int .i64 r].toArray].toArray w fun e w'=>e= .returned (.bool true)∧Only [] w w':=by
 have H:=Heap.nil w
 refine BO 21 func91 O (AP (D9 H O O fun p1 _ H=>BH O (AO (AP (BI O abD (fV ?_))))))
 refine mF ?_
 refine Bo 6 O (Cm O abD) (Bo 6 O (DR H 0 O O O FM) (Bo 6 O (DI O O Y) (EZ O O (BX O (Bo 11 O (Cm O aeM) (Bo 11 O (DR H 0 O O O FM) (Bo 11 O (GI O O Y) (EZ O O (BX O (Bo 16 O (Cm O aeM) (Bo 16 O (DR H 0 O O O FM) (Bo 16 O (DI O O Y) (uh ?_)))))))))))))
 exact⟨rfl,H.drop.only⟩
theorem afZ(hE:Dj [blk b (hpC p pA t R Og pC Oi) 111] w)(hR:R.length=32)(m r:Nat)(hm:m<4)(hr:r<8):
 Calls prog 108 [.pointer (some ⟨b,3,none⟩),.agg [.int .i64 m,.int .i64 r].toArray].toArray w fun e w'=>e= .returned (.tuple #[.int .i64 (R.getD (8*m+r) 0),.int .i64 0])∧Only [] w w':=by
 have HR:=Heap.start hE
 have H:=Heap.nil w
 have hv:=akE (p:=p) (pA:=pA) (t:=t) (R:=R) (Og:=Og) (pC:=pC) (Oi:=Oi) (8*m+r) Y
 rw[show 3+(8*m+r)=3+m*8+r by omega]at hv
 have hRi:=fun W=>Yf m r W hm hr
 refine BO 19 func108 O (AP (D9 H O O fun p3 _ H=>kG ?_))
 refine A8 (AP (vU ?_))
 refine BL H O (hRi _) (ak' O) fun W1 H=>eU ?_
 refine A8 (k_q mixed Aw H (qP ?_))
 refine oC ?_
 refine BZ (fun _ H=>DR (HR.same H.only) 0 O O hv FM) (BZ (fun _ H=>DK (v:= .int _ _) O) (BZ (fun _ H=>DK (v:= .int _ _) O) (Iy ?_)))
 clear H;intro _ H
 refine AX (BM (aX ?_))
 exact⟨rfl,H.drop.only⟩
theorem arY(hE:Dj [blk b (hpC p pA t R Og pC Oi) 111] w)(hR:R.length=32)(m r:Nat)(hm:m<4)(hr:r<8)(h0:R.getD (8*m+r) 0≠0):
 Calls prog 207 [.pointer (some ⟨b,3,none⟩),.agg [.int .i64 m,.int .i64 r].toArray].toArray w fun e w'=>e= .returned (.tuple #[.int .i64 (R.getD (8*m+r) 0),.int .i64 0])∧Only [] w w':=by
 have HR:=Heap.start hE
 have H:=Heap.nil w
 have hG:=fun{W:World} hE=>afZ (w:=W) (b:=b) (p:=p) (pA:=pA) (t:=t) (Og:=Og) (pC:=pC) (Oi:=Oi) (R:=R) hE hR m r hm hr
 generalize R.getD (8*m+r) 0=v at*
 refine BO 22 func207 O (AP (D9 H O O fun p3 _ H=>kG ?_))
 refine AP (Bg O (vU ?_))
 refine BL H O (hG (HR.same H.only).ents) (agm O) fun W1 H=>jP ?_
 refine AO (iQ ?_)
 refine AV (D7 O O Y) (BX O (Bo 16 O (Gm O) (Bo 16 O (D5 O O Y) (EZ O O (dK ?_)))))
 refine AP (AQ O (AQ O (nS ?_)))
 exact⟨rfl,H.drop.only⟩
theorem ae1(hE:Dj [blk b (hpC p pA t R Og pC Oi) 111] w)(hR:R.length=32)(m r:Nat)(hm:m<4)(hr:r<8)(a:Int)(ha:0≤a):
 Calls prog 95 [.pointer (some ⟨b,3,none⟩),.agg [.int .i64 m,.int .i64 r].toArray,.int .i64 a].toArray w fun e w'=>e= .returned (.int .i64 0)∧Heap w [b] [blk b (hpC p pA t (R.set (8*m+r) a) Og pC Oi) 111] w':=by
 have H:Heap w [b] [blk b (hpC p pA t R Og pC Oi) 111] w:=Heap.start hE
 have hv:=akE (p:=p) (pA:=pA) (t:=t) (R:=R) (Og:=Og) (pC:=pC) (Oi:=Oi) (8*m+r) Y
 have hs:=arq (p:=p) (pA:=pA) (t:=t) (R:=R) (Og:=Og) (pC:=pC) (Oi:=Oi) (8*m+r) Y a
 rw[show 3+(8*m+r)=3+m*8+r by omega]at hv hs
 have hRi:=fun W=>Yf m r W hm hr
 refine BO 24 func95 O (AP (D9 H O O fun p4 _ H=>AY O (AO (A8 (AP (vU ?_))))))
 refine BL H O (hRi _) (ak' O) fun W1 H=>AV (Ea O) (BX O (Bo 10 O (Gm O) (Bo 10 O (Di O O Y) (gQ ?_))))
 refine A8 (XT 10 mixed Aw H O O (qP ?_))
 refine bK ?_
 refine oC ?_
 refine Iy ?_
 clear H;intro _ H
 refine Ik (u:= .int _ _) H 1 O O O O hv O Ji ?_
 clear H;refine axS fun _ H=>?_
 refine AO (uP ?_)
 rw[hs]at H
 exact⟨rfl,H.drop⟩
theorem aqm(hE:Dj [blk b (hpC p pA t R Og pC Oi) 111] w)(hR:R.length=32):
 Calls prog 97 [.pointer (some ⟨b,3,none⟩)].toArray w fun e w'=>∃A c,e= .returned (.slice A (R.filter (· ≠0)).length c)∧Heap w [] [Ec 1 (.slice A (R.filter (· ≠0)).length c) (R.filter (· ≠0)).length ((R.filter (· ≠0)).map (Value.int .i64)) 3] w':=by
 have HR:=Heap.start hE
 have H:=(Heap.nil w).Kr 1 3
 have htk:((hpC p pA t R Og pC Oi).drop 3).take 32=R.map (Value.int .i64):=by
  show(R.map (Value.int .i64)++_).take 32=_
  rw[show 32=(R.map (Value.int .i64)).length by rw[DL,hR]]
  exact am2
 have awE:(R.map (Value.int .i64)).length=32:=by rw[DL,hR]
 refine BO 28 func97 O (AP (EM O (AO (AP (EM O (AO (jW ?_)))))))
 refine AV (Nz O aee) (AV (JY (HR.same H.only) 0 (vs:=R.map (Value.int .i64)) O O htk awE avk asP) (xH ?_))
 clear htk
 refine EO (fun z f W=>∃(i:Nat) (OA:Option Addr) (oc:Nat),i≤4∧z=4-i∧f 3= .slice OA ((R.take (8*i)).filter (· ≠0)).length oc∧f 11= .agg (R.map (Value.int .i64)).toArray∧f 12= .int .i64 i∧Heap w [] [Ec 1 (.slice OA ((R.take (8*i)).filter (· ≠0)).length oc) ((R.take (8*i)).filter (· ≠0)).length (((R.take (8*i)).filter (· ≠0)).map (Value.int .i64)) 3] W) 4 ⟨0,none,0,Y,rfl,rfl,rfl,rfl,H⟩ ?_
 clear H
 rintro z f W ⟨i,OA,oc,hi,rfl,f3,f11,f12,H⟩
 obtain⟨f,rfl⟩:=KI f3 f11 f12
 clear f3 f11 f12
 by_cases hlt:i<4
 ·have hrl:((R.drop (8*i)).take 8).length=8:=by rw[Ed,OL];omega
  have hrow:(((R.map (Value.int .i64)).drop (i*8)).take 8)=((R.drop (8*i)).take 8).map (Value.int .i64):=by rw[Ld,←List.map_drop,←Kw]
  have hget:∀j,j<8→R[8*i+j]? =((R.drop (8*i)).take 8)[j]? :=fun j hj=>by rw[QK,if_pos hj,EW]
  generalize(R.drop (8*i)).take 8=row at*
  obtain⟨r0,r1,r2,r3,r4,r5,r6,r7,rfl⟩:=Nu hrl
  refine aB ?_
  refine AV (atK (i:=i) (m:=8) (vs:=[.int .i64 r0,.int .i64 r1,.int .i64 r2,.int .i64 r3,.int .i64 r4,.int .i64 r5,.int .i64 r6,.int .i64 r7]) O O O hlt hrow underlying104 Iw Kz) (Ei H O U0 fun p5 _ H=>vw ?_)
  clear H;refine axS fun _ H=>?_
  refine AO (AP (Dw H 0 O O O Kz Iw (xH ?_)))
  replace H:=H.drop
  refine EO (fun z f W=>∃(j:Nat) (OA:Option Addr) (oc:Nat),j≤8∧z=8-j∧f 3= .slice OA ((R.take (8*i+j)).filter (· ≠0)).length oc∧f 11= .agg (R.map (Value.int .i64)).toArray∧f 12= .int .i64 i∧f 15= .agg [.int .i64 r0,.int .i64 r1,.int .i64 r2,.int .i64 r3,.int .i64 r4,.int .i64 r5,.int .i64 r6,.int .i64 r7].toArray∧f 16= .int .i64 j∧Heap w [] [Ec 1 (.slice OA ((R.take (8*i+j)).filter (· ≠0)).length oc) ((R.take (8*i+j)).filter (· ≠0)).length (((R.take (8*i+j)).filter (· ≠0)).map (Value.int .i64)) 3] W) 8 ⟨0,OA,oc,Y,rfl,rfl,rfl,rfl,rfl,rfl,H⟩ ?_
  clear H
  rintro z f W ⟨j,OA,oc,hj,rfl,f3,f11,f12,f15,f16,H⟩
  obtain⟨f,rfl⟩:=OJ f3 f11 f12 f15 f16
  clear f3 f11 f12 f15 f16
  by_cases hjt:j<8
  ·have hx:=aua r0 r1 r2 r3 r4 r5 r6 r7 j hjt
   generalize [r0,r1,r2,r3,r4,r5,r6,r7].getD j 0=x at hx
   have hxc: [.int .i64 r0,.int .i64 r1,.int .i64 r2,.int .i64 r3,.int .i64 r4,.int .i64 r5,.int .i64 r6,.int .i64 r7][j]? =some (Value.int .i64 x):=by
    show([r0,r1,r2,r3,r4,r5,r6,r7].map (Value.int .i64))[j]? =_
    rw[Cb,hx];rfl
   have hstep:R.take (8*i+(j+1))=R.take (8*i+j)++ [x]:=by
    rw[←IZ,←KT (by rw[hget j hjt];exact hx)]
   by_cases h0:x=0
   ·subst h0
    have hf:(R.take (8*i+(j+1))).filter (· ≠0)=(R.take (8*i+j)).filter (· ≠0):=by rw[hstep];simp
    refine aB ?_
    refine AV (Uh (i:=j) (v:= .int .i64 0) O O O hjt hxc underlying103 Ji FM) (wV ?_)
    exact⟨_,_,Y,rfl,j+1,OA,oc,Y,rfl,by rw[hf];rfl,rfl,rfl,rfl,rfl,by rw[hf];exact H⟩
   ·have hf:(R.take (8*i+(j+1))).filter (· ≠0)=(R.take (8*i+j)).filter (· ≠0)++ [x]:=by rw[hstep,List.filter_append];simp[h0]
    have hfl:((R.take (8*i+(j+1))).filter (· ≠0)).length=((R.take (8*i+j)).filter (· ≠0)).length+1:=by rw[hf,Cj];rfl
    have hb:((R.take (8*i+j)).filter (· ≠0)).length≤32:=FC (Ho _ _) (by rw[Ed];omega)
    refine aB ?_
    refine AV (Uh (i:=j) (v:= .int .i64 x) O O O hjt hxc underlying103 Ji FM) (xK ?_)
    refine AV (Jr O O Y) (AO (EF O (DF (Dz O (AQ O (jo ?_))))))
    clear H;intro _ An cn _ H;simp only[Bv,Nat.reduceAdd]at H
    refine EM O (AZ (aS ?_))
    rw[←hf,←hfl]at H
    exact⟨_,_,Y,rfl,j+1,_,_,Y,rfl,by rw[hfl];rfl,rfl,rfl,rfl,rfl,H⟩
  ·obtain rfl:j=8:=Y
   rw[show 8*i+8=8*(i+1)by omega]at H
   refine aU ?_
   refine aS ?_
   exact⟨_,_,Y,rfl,i+1,OA,oc,Y,rfl,by rw[show 8*(i+1)=8*i+8 by omega];rfl,rfl,rfl,H⟩
 ·obtain rfl:i=4:=Y
  rw[Fp (show R.length≤8*4 by omega)]at H
  rw[Fp (show R.length≤8*4 by omega)]
  refine oh ?_
  refine Dz O (rW ?_)
  exact⟨OA,oc,rfl,H⟩
end
end
end
section
section
open Go.RowKit
theorem Ob.ahF{c:List Int}(hw:Ob.Qv c){a:Int}(h:Ob.hd c a=true):0≤a∧a+(1+Ob.hp c a+Ob.hq c a)≤c.length:=by
 have hy:=Ob.aa1 h
 have hb:=Ob.ahi (Nv.get c a) a (Ob.Yx hw a).1
 have e1:Ob.hp c a=Oh.decP (Nv.get c a) a:=by unfold Ob.hp;rw[if_pos h]
 have e2:Ob.hq c a=Oh.Tn (Nv.get c a) a:=by unfold Ob.hq;rw[if_pos h]
 rw[(Cl.Ns _ _ hb.1 hb.2.1 hb.2.2.1 hb.2.2.2).1]at hy
 rw[e1,e2]
 omega
theorem Ob.aiw{c:List Int}(hw:Ob.Qv c)(a:Int):Cl.size (Ob.hp c a) (Ob.hq c a)=1+Ob.hp c a+Ob.hq c a:=by
 have hb:=Ob.QS hw a
 rw[(Cl.Ns _ _ hb.1 hb.2.1 hb.2.2.1 hb.2.2.2).1]
section
variable{g:Geo}{d:Nv.D}{m:Nat}{w:World}
theorem alT(hE:Dj (Dy g d) w)(hD:Dv d m)(hm:m≤100000)(a i to:Int)(hh:Ob.hd d.cache a=true)(hi:0≤i∧i<Ob.hp d.cache a)(ht:0≤to∧to≤9223372036854775807):
 Calls prog 144 [ptr g.p,.int .i64 a,.int .i64 i,.int .i64 to].toArray w fun e w'=>∃d',ZB d d' m (a+(1+i)).toNat to∧e= .returned (.int .i64 0)∧Heap w (ids (Dy g d)) (Dy g d') w':=by
 have H:=IJ hE
 have hcl:=hD.len
 have hll:=Ob.ahF hD.U hh
 have hb:=Ob.QS hD.U a
 have hF:=fun{W:World} hE=>aiU (g:=g) (d:=d) (w:=W) hE hD.U Y a i hh hi
 obtain⟨x,hx⟩:=BR (show 0≤a+(1+i)by omega)
 rw[hx,BJ]
 rw[hx]at hF
 obtain⟨d',hd,hst⟩:=hD.stored (a:=x) Y (v:=to) Y
 have hS:=fun{W:World} hE=>Ua (g:=g) (w:=W) hE hD hm hd
 refine BO 30 func144 O (oM ?_)
 refine eH ?_
 refine AQ O (BL H O (hF (H.Bl 0 O)) (aiS O) fun W1 H=>jP ?_)
 refine AO (A8 (E8 (AP (AQ O (AV (Dc O O Y) (BH O (AO (DC O (AP (AQ O (AV (Di O O Y) (uO ?_))))))))))))
 refine eH ?_
 refine AQ O (AV (adZ O Aw underlying26 (wU Y)) (s_call O (hS (H.Bl 0 O)) (JI O) ?_))
 rintro e W1 ⟨rfl,H'⟩
 refine⟨_,rfl,?_⟩
 have H:=H.CX 0 rfl H';clear H';simp only[Bv]at H
 refine eu ?_
 exact⟨d',hst,rfl,Hr H⟩
theorem ajE(hE:Dj (Dy g d) w)(hD:Dv d m)(hm:m≤100000)(a i v:Int)(hh:Ob.hd d.cache a=true)(hi:0≤i∧i<Ob.hq d.cache a)(hv:0≤v∧v≤18446744073709551615):
 Calls prog 145 [ptr g.p,.int .i64 a,.int .i64 i,.int .u64 v].toArray w fun e w'=>∃d',ZB d d' m (a+(1+Ob.hp d.cache a+i)).toNat v∧e= .returned (.int .i64 0)∧Heap w (ids (Dy g d)) (Dy g d') w':=by
 have H:=IJ hE
 have hcl:=hD.len
 have hll:=Ob.ahF hD.U hh
 have hb:=Ob.QS hD.U a
 have hF:=fun{W:World} hE=>afV (g:=g) (d:=d) (w:=W) hE hD.U Y a i hh hi
 obtain⟨x,hx⟩:=BR (show 0≤a+(1+Ob.hp d.cache a+i)by omega)
 rw[hx,BJ]
 rw[hx]at hF
 obtain⟨d',hd,hst⟩:=hD.stored (a:=x) Y (v:=v) hv
 have hS:=fun{W:World} hE=>Ua (g:=g) (w:=W) hE hD hm hd
 refine BO 25 func145 O (oM ?_)
 refine eH ?_
 refine AQ O (BL H O (hF (H.Bl 0 O)) (aiS O) fun W1 H=>pG ?_)
 refine eH ?_
 refine AQ O (s_call O (hS (H.Bl 0 O)) (JI O) ?_)
 rintro e W1 ⟨rfl,H'⟩
 refine⟨_,rfl,?_⟩
 have H:=H.CX 0 rfl H';clear H';simp only[Bv]at H
 refine eu ?_
 exact⟨d',hst,rfl,Hr H⟩
theorem ahx(hE:Dj (Dy g d) w)(hw:Ob.Qv d.cache)(hl:d.cache.length≤1000000000)(a i:Int)(hh:Ob.hd d.cache a=true)(hi:0≤i∧i<Ob.hq d.cache a):
 Calls prog 140 [ptr g.p,.int .i64 a,.int .i64 i].toArray w fun e w'=>e= .returned (.tuple [.int .u64 (Nv.get d.cache (a+(1+Ob.hp d.cache a+i))),.int .i64 0].toArray)∧Only [] w w':=by
 have HR:=Heap.start hE
 have H:=Heap.nil w
 have hF:=fun{W:World} (h:Only [] w W)=>afV (HR.same h).ents hw hl a i hh hi
 generalize a+(1+Ob.hp d.cache a+i)=x at*
 have hG:=fun{W:World} (h:Only [] w W)=>aaM g d x W (HR.same h).ents
 refine BO 23 func140 O (lW ?_)
 refine AQ O (BL H O (hF H.only) (aiS O) fun W1 H=>pG ?_)
 refine eH ?_
 refine BL H O (hG H.only) (SG O) fun W1 H=>nS ?_
 exact⟨rfl,H.only⟩
theorem ajA(hE:Dj (Dy g d) w)(hD:Dv d m)(hg:Q5 g m)(hm:m≤100000)(a:Int)(hh:Ob.hd d.cache a=true):
 Calls prog 146 [ptr g.p,.int .i64 a].toArray w fun e w'=>∃d',Per d d' m a.toNat (1+Ob.hp d.cache a+Ob.hq d.cache a).toNat∧e= .returned (.int .i64 0)∧Heap w (ids (Dy g d)) (Dy g d') w':=by
 have H:=IJ hE
 have hcl:=hD.len
 have hll:=Ob.ahF hD.U hh
 have hb:=Ob.QS hD.U a
 have hF:=fun{W:World} hE=>aaR (g:=g) (d:=d) (w:=W) hE hD.U Y a ⟨Y,Y⟩
 rw[show Ob.he d.cache a=0 by unfold Ob.he;rw[if_pos hh]]at hF
 have hSz:=fun(W:World)=>aej (Ob.hp d.cache a) (Ob.hq d.cache a) W Y Y
 rw[Ob.aiw hD.U]at hSz
 obtain⟨x,rfl⟩:=BR (show 0≤a by omega)
 obtain⟨n,hn⟩:=BR (show 0≤1+Ob.hp d.cache x+Ob.hq d.cache x by omega)
 rw[hn]at hSz hll
 rw[hn,BJ,BJ]
 obtain⟨d',hd,hst⟩:=hD.persisted (a:=x) (n:=n) Y
 have hS:=fun{W:World} hE=>V4 (g:=g) (w:=W) hE hD hg hm hd
 generalize Ob.hp d.cache x=p at*
 generalize Ob.hq d.cache x=q at*
 refine BO 21 func146 O (oM ?_)
 refine eH ?_
 refine BL H O (hF (H.Bl 0 O)) (Vy O) fun W1 H=>gX ?_
 refine Ei H O G8 fun p5 _ H=>iH ?_
 clear H;refine axS fun _ H=>?_
 refine vV ?_
 refine eH ?_
 refine tJ ?_
 refine BL H O (hSz _) (Zc O) fun W1 H=>s_call O (hS (H.Bl 1 O)) (Uz O) ?_
 rintro e W1 ⟨rfl,H'⟩
 refine⟨_,rfl,?_⟩
 have H:=H.CX 1 rfl H';clear H';simp only[Bv]at H
 refine eu ?_
 exact⟨d',hst,rfl,Hr H.drop⟩
end
end
end
section
section
open Go.RowKit
def gets(l:List Int):Nat→List Int
 |0=> []
 |k+1=>gets l k++ [Nv.get l (k:Int)]
theorem XH(l:List Int):∀k,(gets l k).length=k
 |0=>rfl
 |k+1=>by rw[gets,Cj,XH l k];rfl
theorem amn(l:List Int)(k:Nat)(hk:k<8):(gets l k++List.replicate (8-k) 0).set k (Nv.get l (k:Int))=gets l (k+1)++List.replicate (8-(k+1)) 0:=by
 rw[List.set_append,if_neg (by rw[XH];omega),XH,Hw,show 8-k=(8-(k+1))+1 by omega,Gz,Bf,gets,EK]
 rfl
theorem anf(g:Geo)(d:Nv.D)(w:World)(hE:Dj (Dy g d) w):
 Calls prog 236 [ptr g.p].toArray w fun e w'=>e= .returned (.agg ((gets d.cache 8).map (Value.int .u64)).toArray)∧Only [] w w':=by
 have HR:=Heap.start hE
 have H:=Heap.nil w
 refine BO 16 func236 O (AP (Ei H O amc fun p2 _ H=>AO (AP (Ei H O amc fun p3 _ H=>AO (iQ ?_)))))
 refine AO (E8 (EO (fun z f W=>∃k:Nat,k≤8∧z=8-k∧f 0=ptr g.p∧f 2=ptr p2∧f 3=ptr p3∧f 5= .int .i64 k∧Heap w [] [blk p3 ((gets d.cache k++List.replicate (8-k) 0).map (Value.int .u64)) 245,blk p2 ((List.replicate 8 0).map (Value.int .u64)) 245] W) 8 ⟨0,Y,rfl,rfl,rfl,rfl,rfl,H⟩ ?_))
 clear H
 rintro z f W ⟨k,hk,rfl,f0,f2,f3,f5,H⟩
 obtain⟨f,rfl⟩:=Jj f0 f2 f3 f5
 clear f0 f2 f3 f5
 by_cases hlt:k<8
 ·obtain⟨c8,hv8⟩:∃c0,((gets d.cache k++List.replicate (8-k) 0).map (Value.int .u64))[k]? =some c0:=⟨_,Ba (by rw[DL,Cj,XH,Dn];omega)⟩
  refine nR ?_
  refine AO (DF (AQ O (Bg O (mZ ?_))))
  refine BL H O (aaM g d (0+(k:Int)) _ (HR.same H.only).ents) (SG O) fun W1 H=>AV (Ot (i:=k) O O Y Y underlying245 MB) (Ik (u:= .int _ _) H 0 O O O O hv8 O MB ?_)
  clear H;refine axS fun _ H=>?_
  refine AZ (aS ?_)
  rw[Int.zero_add,←G7,amn d.cache k hlt]at H
  refine⟨_,_,?_,rfl,k+1,Y,rfl,rfl,rfl,rfl,rfl,H⟩
  omega
 ·obtain rfl:k=8:=Y
  refine oh ?_
  refine Dw H 0 O O O apg anh (En H 1 O O O O O O O anh ?_)
  clear H;refine axS fun _ H=>?_
  refine AO (BM (abJ O (JB H 1 O O O apg anh) ?_))
  exact⟨rfl,H.only⟩
end
end
section
section
open Go.RowKit
theorem abL(b:Int)(w:World)(h:0≤b∧b≤1000000):
 Calls prog 33 [.agg [.int .i64 b].toArray].toArray w fun e w'=>e= .returned (.int .i64 (b*512))∧Only [] w w':=by
 have H:=Heap.nil w
 refine BO 6 func33 O (AP (D9 H O O fun p1 _ H=>AY O (AO (AP (BI O QU (fV ?_))))))
 refine AV (Ya O O (wI Y)) (eu ?_)
 exact⟨rfl,H.only⟩
structure aqL (ls:List Int) (B N E:Int):Prop where
 call:∀w:World,Calls prog 235 [.agg (ls.map (Value.int .u64)).toArray].toArray w fun e w'=>e= .returned (.tuple #[.agg [.int .i64 B,.int .u64 N].toArray,.int .i64 E])∧Only [] w w'
 bd:0≤B∧B≤256
theorem auA(g:Geo)(d:Nv.D)(B N E:Int)(w:World)(hE:Dj (Dy g d) w)(hD:aqL (gets d.cache 8) B N E):
 Calls prog 172 [ptr g.p].toArray w fun e w'=>e= .returned (.tuple #[.agg (if E=0∧B*512=d.cache.length then [.int .i64 B,.int .u64 N]else [.int .i64 0,.int .u64 0]).toArray,.int .i64 (if E=0∧B*512=d.cache.length then 0 else 20)])∧Only [] w w':=by
 have HR:=Heap.start hE
 have H:=Heap.nil w
 have hb:=hD.bd
 by_cases h0:E=0
 ·subst h0
  by_cases h1:B*512=d.cache.length
  ·rw[if_pos ⟨rfl,h1⟩,if_pos ⟨rfl,h1⟩]
   refine BO 25 func172 O (AP (Ei H O Xd fun p2 _ H=>sZ ?_))
   refine BL H O (anf g d _ (HR.same H.only).ents) (alD O) fun W1 H=>BL H O (hD.call _) (akH O) fun W1 H=>gX ?_
   refine Ei H O Xd fun p4 _ H=>En H 0 O O O O O O O SY ?_
   clear H;refine axS fun _ H=>?_
   refine oK ?_
   rintro e W1 ⟨rfl,H'⟩
   refine⟨_,rfl,?_⟩
   have H:=H.same H';clear H'
   refine Bo 14 O (Ls O) (s_call (ET 14 Aw O) (Zw g d _ (HR.same H.only).ents) (Qq O) ?_)
   rintro e W1 ⟨rfl,H'⟩
   refine⟨_,rfl,?_⟩
   have H:=H.same H';clear H'
   refine Bo 14 O (Dc O O Y) (gQ ?_)
   refine AP (Dw H 0 O O O adk SY (En H 1 O O O O O O O SY ?_))
   clear H;refine axS fun _ H=>?_
   refine xA ?_
   refine ND O (JB H 1 O O O adk SY) (Jt (v:= .int _ _) O) ?_
   exact⟨rfl,H.only⟩
  ·rw[if_neg (fun h=>h1 h.2),if_neg (fun h=>h1 h.2)]
   refine BO 25 func172 O (AP (Ei H O Xd fun p2 _ H=>sZ ?_))
   refine BL H O (anf g d _ (HR.same H.only).ents) (alD O) fun W1 H=>BL H O (hD.call _) (akH O) fun W1 H=>gX ?_
   refine Ei H O Xd fun p4 _ H=>En H 0 O O O O O O O SY ?_
   clear H;refine axS fun _ H=>?_
   refine oK ?_
   rintro e W1 ⟨rfl,H'⟩
   refine⟨_,rfl,?_⟩
   have H:=H.same H';clear H'
   refine Bo 14 O (Ls O) (s_call (ET 14 Aw O) (Zw g d _ (HR.same H.only).ents) (Qq O) ?_)
   rintro e W1 ⟨rfl,H'⟩
   refine⟨_,rfl,?_⟩
   have H:=H.same H';clear H'
   refine Bo 14 O (Jr O O Y) (DW O O (oV ?_))
   refine AV (FI (apv) O) (En H 1 O O O O O O O SY ?_)
   clear H;refine axS fun _ H=>?_
   refine xA ?_
   refine Dx (ND O (JB H 1 O O O adk SY) (Jt (v:= .int _ _) O) ?_)
   exact⟨rfl,H.only⟩
 ·rw[if_neg (fun h=>h0 h.1),if_neg (fun h=>h0 h.1)]
  refine BO 25 func172 O (AP (Ei H O Xd fun p2 _ H=>sZ ?_))
  refine BL H O (anf g d _ (HR.same H.only).ents) (alD O) fun W1 H=>BL H O (hD.call _) (akH O) fun W1 H=>gX ?_
  refine Ei H O Xd fun p4 _ H=>En H 0 O O O O O O O SY ?_
  clear H;refine axS fun _ H=>?_
  refine lV ?_
  refine AV (Jr O O Y) (BX O (Df 14 O O (Df 14 O O (Df 14 O O (Df 14 O O (Df 14 O O (Df 14 O O (Df 14 O O (EZ O O (oV ?_))))))))))
  refine AV (FI (apv) O) (En H 1 O O O O O O O SY ?_)
  clear H;refine axS fun _ H=>?_
  refine xA ?_
  refine Dx (ND O (JB H 1 O O O adk SY) (Jt (v:= .int _ _) O) ?_)
  exact⟨rfl,H.only⟩
end
end
section
section
open Go.RowKit
end
end
section
section
open Go.RowKit
end
end
section
section
open Go.RowKit
end
end
section
section
open Go.RowKit
end
end
section
section
open Nv
theorem VT(l:List Int)(a:Nat):∀k,EN l a k=(List.range k).map fun(i:Nat)=>Nv.get l ((a:Int)+(i:Int))
 |0=>rfl
 |k+1=>by rw[Lr,EY,←VT l a k];rfl
theorem amk(l ws:List Int)(a:Nat)(ha:a+16≤l.length)(hw:ws.length=16)(h:∀i,i<16→l.getD (a+i) 0=ws.getD i 0):EN l a 16=ws:=by
 rw[VT]
 apply JK (by simp[hw])
 intro i h1 h2
 rw[Yy,W9]
 have hi:i<16:=by simpa using h1
 unfold Nv.get
 rw[if_pos Y,show((a:Int)+(i:Int)).toNat=a+i by omega,h i hi]
 simp[List.getD,Ba h2]
theorem aa2(l:List Int)(a i:Nat)(ha:a+16≤l.length)(hi:i<16):(EN l a 16).getD i 0=l.getD (a+i) 0:=by
 rw[VT]
 simp only[List.getD]
 rw[Cb,Ip hi]
 show Nv.get l _=_
 unfold Nv.get
 rw[if_pos Y,show((a:Int)+(i:Int)).toNat=a+i by omega]
 rfl
structure Sl (d:Nv.D) (k:Nat) (z:List Int):Prop where
 a:Ln d (8+8*k) (fun x=>z.getD (x-(64+64*k)) 0)
 b:Ln d (9+8*k) (fun x=>z.getD (x-(64+64*k)) 0)
variable{d:Nv.D}{k:Nat}{z:List Int}
theorem Sl.gets(h:Sl d k z)(hl:d.cache.length=512)(hk:k=0∨k=1)(hz:z.length=16):EN d.cache (64+64*k) 16=z:=by
 refine amk _ _ _ Y hz fun i hi=>?_
 by_cases h8:i<8
 ·have:=h.a.va (64+64*k+i) Y
  rw[this];show z.getD (64+64*k+i-(64+64*k)) 0=_
  rw[show 64+64*k+i-(64+64*k)=i by omega]
 ·have:=h.b.va (64+64*k+i) Y
  rw[this];show z.getD (64+64*k+i-(64+64*k)) 0=_
  rw[show 64+64*k+i-(64+64*k)=i by omega]
theorem Sl.keep(h:Sl d k z)(hI:Inv d 64)(hk:k=0∨k=1)(E:Int)(ws:List Int):Sl (cm d 64 E k ws).1 k z:=
 ⟨h.a.cm hI E k ws (fun i hi=>Y),h.b.cm hI E k ws (fun i hi=>Y)⟩
theorem Sl.wr(hI:Inv d 64)(ws:List Int)(hk:k=0∨k=1)(h:(Nv.wr d 64 (64+64*k) ws).2=0):Sl (Nv.wr d 64 (64+64*k) ws).1 k ws:=by
 have hw:=fun i hi=>alI hI h i hi
 refine⟨⟨?_,fun x hx=>?_⟩,⟨?_,fun x hx=>?_⟩⟩
 ·have:=(hw 0 Y).2
  rwa [show(64+64*k+0)/8=8+8*k by omega]at this
 ·have:=(hw (x-(64+64*k)) Y).1
  rwa [show 64+64*k+(x-(64+64*k))=x by omega]at this
 ·have:=(hw 8 Y).2
  rwa [show(64+64*k+8)/8=9+8*k by omega]at this
 ·have:=(hw (x-(64+64*k)) Y).1
  rwa [show 64+64*k+(x-(64+64*k))=x by omega]at this
theorem Sl.new(hI:Inv d 64)(E:Int)(ws:List Int)(hk:k=0∨k=1)(h:(cm d 64 E k ws).2=0):Sl (cm d 64 E k ws).1 (1-k) ws:=by
 unfold Nv.cm at h⊢
 split
 ·rename_i hb;rw[if_pos hb]at h;cases h
 rename_i hb
 rw[if_neg hb]at h
 split
 ·rename_i hz
  rw[if_pos hz]at h
  exact Sl.wr (hI.wi _ E) ws Y h
 ·rename_i hz
  rw[if_neg hz]at h;exact absurd h hz
theorem adg(n j:Nat):(List.replicate n false).getD j false=false:=by
 simp only[List.getD,Ew]
 split<;>rfl
theorem Sl.load{ws:List Int}(hw:ws.length=512)(hk:k=0∨k=1):Sl (Nv.load ws 64) k (EN ws (64+64*k) 16):=by
 have hc:∀j,(Nv.load ws 64).dirty.getD j false=false:=fun j=>by
  exact adg 64 j
 refine⟨⟨hc _,fun x hx=>?_⟩,⟨hc _,fun x hx=>?_⟩⟩
 ·show ws.getD x 0=(EN ws (64+64*k) 16).getD (x-(64+64*k)) 0
  rw[aa2 _ _ _ Y Y,show 64+64*k+(x-(64+64*k))=x by omega]
 ·show ws.getD x 0=(EN ws (64+64*k) 16).getD (x-(64+64*k)) 0
  rw[aa2 _ _ _ Y Y,show 64+64*k+(x-(64+64*k))=x by omega]
def Rts(R:List Int):Prop:=R.length=8∧St.okR R
theorem Rts.i64{R:List Int}(h:Rts R):∀r∈R,I64 r:=fun r hr=>by
 have:=h.2 r hr
 exact⟨Y,Y⟩
theorem atE{z:List Int}(hz:z.length=16)(hU:Im.U z)(h:dC z=0):0<Xj z∧Xj z≤18446744073709551615∧Rts (dVR z):=by
 have hd:Xj z=dE z∧dVR z=dR z:=by unfold Xj dVR;rw[if_pos h,if_pos h];exact⟨rfl,rfl⟩
 rw[hd.1,hd.2]
 obtain⟨l0,l1,l2,l3,l4,l5,l6,l7,l8,l9,l10,G9,l12,I9,I8,l15,rfl⟩:=aeJ hz
 unfold dC at h
 simp only[]at h
 split at h
 ·cases h
 split at h
 ·cases h
 split at h
 ·rename_i ho
  have h1:=ho.1
  unfold St.Ia at h1
  have h2:=of_decide_eq_true h1
  have h0:=hU l0 J
  exact⟨h2.2,h0.2,rfl,h2.1⟩
 ·cases h
open Classical in
theorem Rt(E:Int)(R:List Int)(hE:0<E)(hR:Rts R):dC (J3 E R)=0∧Xj (J3 E R)=E∧dVR (J3 E R)=R:=by
 obtain⟨r0,r1,r2,r3,r4,r5,r6,r7,rfl⟩:=Nu hR.1
 have hr:=St.F7 E [r0,r1,r2,r3,r4,r5,r6,r7] hR.2 hE
 have e:J3 E [r0,r1,r2,r3,r4,r5,r6,r7]=[E,r0,r1,r2,r3,0,0,St.QF E r0 r1 r2 r3,E,r4,r5,r6,r7,1,0,St.QZ E r4 r5 r6 r7]:=by
  show(if St.Ia E [r0,r1,r2,r3,r4,r5,r6,r7]=true then _ else _)=_
  rw[if_pos hr]
 rw[e]
 have h:dC [E,r0,r1,r2,r3,0,0,St.QF E r0 r1 r2 r3,E,r4,r5,r6,r7,1,0,St.QZ E r4 r5 r6 r7]=0:=by
  have a1:St.QF E r0 r1 r2 r3=St.Ej E r0 r1 r2 r3 0 0:=rfl
  have a2:St.QZ E r4 r5 r6 r7=St.Ej E r4 r5 r6 r7 1 0:=rfl
  simp only[dC,←a1,←a2,ne_eq,not_true_eq_false,if_false]
  rw[if_pos]
  exact⟨hr,rfl,rfl,rfl,rfl,rfl⟩
 refine⟨h,?_,?_⟩
 ·unfold Xj;rw[if_pos h];rfl
 ·unfold dVR;rw[if_pos h];rfl
theorem apy(E:Int)(R:List Int)(hE:FT E):Im.U (J3 E R):=by
 unfold J3
 split
 ·rename_i r0 r1 r2 r3 r4 r5 r6 r7
  split
  ·rename_i h
   obtain⟨h0,h1,h2,h3,h4,h5,h6,h7,h8⟩:=abO h
   have s0:=St.aiV E r0 r1 r2 r3
   have s1:=St.ah0 E r4 r5 r6 r7
   unfold FT at hE
   intro x hx
   simp only[Dh,Gx,or_false]at hx
   rcases hx with rfl|rfl|rfl|rfl|rfl|rfl|rfl|rfl|rfl|rfl|rfl|rfl|rfl|rfl|rfl|rfl<;>omega
  ·intro x hx
   simp only[Dh,Gx,or_false,or_self]at hx
   omega
 ·intro x hx
  simp only[Dh,Gx,or_false,or_self]at hx
  omega
theorem anB:dC [0,0,0,0,0,0,0,0,0,0,0,0,0,0,0,0]≠0:=fun h=>by
 have h1:=(atE rfl (by intro x hx;simp at hx;omega) h).1
 unfold Xj at h1
 rw[if_pos h]at h1
 exact absurd (show(0:Int)<0 from h1) Ak
structure RG (d:Nv.D) (E:Int) (R:List Int) (k:Nat) (V:List Int):Prop where
 inv:Inv d 64
 ud:Ud d
 kk:k=0∨k=1
 sl:∃z:List Int,z.length=16∧Sl d k z∧dC z=0
 E0:0<E
 E1:E≤18446744073709551615
 hR:Rts R
 hV:Rts V
theorem RG.len{d:Nv.D}{E:Int}{R V:List Int}{k:Nat}(h:RG d E R k V):d.cache.length=512:=by rw[h.inv.ok.hc]
theorem RG.set{d:Nv.D}{E:Int}{R V:List Int}{k:Nat}(h:RG d E R k V)(i:Nat)(v:Int)(hv:0≤v∧v<131072):RG d E R k (V.set i v):=
 {h with hV:=⟨by rw[Hz];exact h.hV.1,fun x hx=>by
  rcases DY hx with h1|h1
  ·exact h.hV.2 x h1
  ·rw[h1];omega⟩}
theorem RG.back{d:Nv.D}{E:Int}{R V:List Int}{k:Nat}(h:RG d E R k V):RG d E R k R:={h with hV:=h.hR}
end
end
end Go.Proofs.YtppilhpcmkekbaaGreat
