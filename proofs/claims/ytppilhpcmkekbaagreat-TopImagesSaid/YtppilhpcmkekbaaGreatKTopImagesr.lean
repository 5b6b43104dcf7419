/- Parts of the proof. -/
import Derived.Test.YtppilhpcmkekbaaGreatKTopImagesk
import Derived.Test.YtppilhpcmkekbaaGreatKTopImagesq
set_option linter.unusedSimpArgs false
set_option linter.unusedVariables false
set_option linter.unusedSectionVars false
set_option maxRecDepth 100000
set_option maxHeartbeats 16000000
namespace Go.Proofs.YtppilhpcmkekbaaGreat
open Go.Proofs.Tryz
section
section
open Go.RowKit
theorem ayj(l0 l1 l2 l3 l4 l5 l6 l7:Int)(h0:Zj l0)(h1:Zj l1)(h2:Zj l2)(h3:Zj l3)(h4:Zj l4)(h5:Zj l5)(h6:Zj l6)(h7:Zj l7):
 ar8 [l0,l1,l2,l3,l4,l5,l6,l7] (Su.Qs l0 l1 l2 l3 l4 l5 l6 l7) (Su.acg l0 l1 l2 l3 l4 l5 l6 l7) (Su.MZ l0 l1 l2 l3 l4 l5 l6 l7):=by
 refine⟨fun w=>(ak4 l0 l1 l2 l3 l4 l5 l6 l7 w h0 h1 h2 h3 h4 h5 h6 h7).mono (fun _ _ h=>⟨h.1,Only.of_below h.2 _⟩),?_⟩
 unfold Su.Qs
 split
 ·rename_i h
  obtain⟨_,_,_,_,_,_,a,b⟩:=h
  omega
 ·omega
theorem aeD(b:Int)(w:World)(h:0≤b∧b≤1000000):
 Calls prog 31 [.agg [.int .i64 b].toArray].toArray w fun e w'=>e= .returned (.bool (Su.Fh b))∧Only [] w w':=
 (QY b w Y Y).mono fun _ _ h=>⟨h.1,Only.of_below h.2 _⟩
def YC(b id:Int):List Int:=[8390047168116913201,1,b,id,0,0,0,Su.crc b id]
theorem axA(b id:Int)(w:World)(h:0≤b∧b≤1000000)(h2:Zj id):
 Calls prog 165 [.agg [.int .i64 b,.int .u64 id].toArray].toArray w fun e w'=>e= .returned (.agg ((YC b id).map (Value.int .u64)).toArray)∧Only [] w w':=
 (abT b id w Y Y h2.1 h2.2).mono fun _ _ h=>⟨h.1,Only.of_below h.2 _⟩
theorem aky(g:Geo)(d:Nv.D)(m:Nat)(b id:Int)(w:World)(hE:DW (Dz g d) w)(hI:Nv.Inv d m)(hl:Nv.Live d)(hg:Wi g m)(hm:1≤m∧m≤100000)(h:2≤b∧b≤256)(hid:Zj id)(hn:b*512=d.cache.length):
 Calls prog 103 [ptr g.p,.agg [.int .i64 b,.int .u64 id].toArray].toArray w fun e w'=>e= .returned (.int .i64 0)∧Heap w (ids (Dz g d)) (Dz g (Nv.persist (Nv.ZJ d (YC b id) 8) m 0 8).1) w':=by
 have H:=GZ hE
 have hG:=fun w=>aeD b w Y
 rw[Su.FY b h.1 h.2]at hG
 have hw8:(YC b id).length=8:=rfl
 obtain⟨hp0,hpI,_⟩:=Nv.ajG hI hl hw8 hm.1
 have Yo:=fun w=>axA b id w Y hid
 generalize YC b id=ws at*
 refine BM 39 func103 O (Aw (DU H O O fun p3 _ H=>nG ?_))
 refine BR O aan (mQ ?_)
 refine AL (FP (XF _) O) (Ea H O acy fun p5 _ H=>Eh H 0 O O O O O O O G5 ?_)
 clear H;refine ayJ fun _ H=>?_
 refine Au (AP (Aw (qR ?_)))
 refine BI H O (hG _) (apq O) fun W1 H=>AL (EM O) (BL O (AX 15 O (Je H 0 O O O H6 G5) (s_call (EP 15 Ak O) (YD b _ Y) (akf O) ?_)))
 rintro e W1 ⟨rfl,H'⟩
 refine⟨_,rfl,?_⟩
 have H:=H.same H';clear H'
 refine AX 15 O (MQ O) (s_call (EP 15 Ak O) (Ze g d _ (H.Bl 2 O)) (PV O) ?_)
 rintro e W1 ⟨rfl,H'⟩
 refine⟨_,rfl,?_⟩
 have H:=H.same H';clear H'
 refine AX 15 O (Dc O O Y) (fE ?_)
 refine AP (Aw (Dn H 1 O O O adh TA (BI H O (Yo _) (avO O) fun W1 H=>tV ?_)))
 refine Ec (fun z f W=>∃k:Nat,k≤8∧z=8-k∧f 0=ptr g.p∧f 23= .agg (ws.map (Value.int .u64)).toArray∧f 24= .int .i64 k∧Heap w (ids (Dz g d)) [blk p5 [.int .i64 b] 79,blk p3 [.int .i64 b,.int .u64 id] 113,grp (Dz g (Nv.ZJ d ws k))] W) 8 ⟨0,Y,rfl,rfl,rfl,rfl,H⟩ ?_
 clear H
 rintro z f W ⟨k,hk,rfl,f0,f23,f24,H⟩
 obtain⟨f,rfl⟩:=OE f0 f23 f24
 clear f0 f23 f24
 have hIk:=Nv.ZY hI ws k Y
 have hLk:=Nv.aaA hl ws k
 by_cases hlt:k<8
 ·have hz:(ws.map (Value.int .u64))[k]? =some (.int .u64 (ws.getD k 0)):=by
   rw[BG,Ar Y,Ba,Ar Y];rfl
  have hS:=fun W hE=>YO g (Nv.ZJ d ws k) m (0+(k:Int)) (ws.getD k 0) W hE hIk.ok hm.2
  have eS:Nv.store (Nv.ZJ d ws k) m (0+(k:Int)) (ws.getD k 0)=(Nv.put (Nv.stepped (Nv.ZJ d ws k)) k (ws.getD k 0),0):=by rw[Int.zero_add];exact Nv.Xh hLk Y _
  rw[eS]at hS
  refine lW ?_
  refine AL (ad5 (i:=k) (v:= .int .u64 (ws.getD k 0)) O O O hlt hz underlying245 GV GR) (AQ O (rU ?_))
  refine dI ?_
  refine Az O (s_call O (hS _ (H.Bl 2 O)) (JM O) ?_)
  rintro e W1 ⟨rfl,H'⟩
  refine⟨_,rfl,?_⟩
  have H1:=H.DN 2 rfl H';clear H H';have H:=H1;clear H1;simp only[AY,AZ]at H
  refine vY ?_
  refine⟨_,_,?_,rfl,k+1,Y,rfl,rfl,rfl,rfl,H⟩
  omega
 ·obtain rfl:k=8:=Y
  have hP:=fun W hE=>VJ g (Nv.ZJ d ws 8) m 0 8 W hE hIk.ok hg hm.2
  rw[hp0]at hP
  refine uS ?_
  refine BF O (s_call O (hP _ (H.Bl 2 O)) (UL O) ?_)
  rintro e W1 ⟨rfl,H'⟩
  refine⟨_,rfl,?_⟩
  have H1:=H.DN 2 rfl H';clear H H';have H:=H1;clear H1;simp only[AY,AZ]at H
  refine fH ?_
  exact⟨rfl,Iw H.drop.drop⟩
theorem alD(b id:Int)(h:2≤b∧b≤256)(hid:Zj id):ar8 (YC b id) b id 0:=by
 have hc:=Su.agr b id
 have hd:=ayj 8390047168116913201 1 b id 0 0 0 (Su.crc b id) ⟨Y,Y⟩ ⟨Y,Y⟩ ⟨Y,Y⟩ hid ⟨Y,Y⟩ ⟨Y,Y⟩ ⟨Y,Y⟩ ⟨Y,Y⟩
 have hk:Su.okB 1 b 0 0 0:=⟨rfl,rfl,rfl,rfl,h.1,h.2⟩
 obtain⟨e1,e2,e3⟩:=Su.aly 1 b id 0 0 0 hk
 have hs:Su.Es 1 b id 0 0 0=Su.crc b id:=Su.apC b id
 rw[hs]at e1 e2 e3
 rw[e1,e2,e3]at hd
 exact hd
end
end
section
section
structure Lay (d d':Nv.D) (m a n:Nat) (f:Nat→Int):Prop where
 D:Dv d' m
 i:∀x:Nat,x<n→Nv.get d'.cache ((a+x:Nat):Int)=f x
 o:∀x:Int,¬((a:Int)≤x∧x<a+n)→Nv.get d'.cache x=Nv.get d.cache x
 k:∀j,Un d j=false→Un d' j=false
theorem Wri.lay{d d1 d2:Nv.D}{m a n:Nat}{f:Nat→Int}(h:Wri d d1 m a n f)(p:Per d1 d2 m a n):Lay d d2 m a n f:=by
 refine⟨p.D,fun x hx=>by rw[p.c];exact h.i x hx,fun x hx=>by rw[p.c];exact h.o x hx,fun j hj=>?_⟩
 by_cases e:∃x,a≤x∧x<a+n∧x/8=j
 ·obtain⟨x,h1,h2,rfl⟩:=e
  exact p.q x h1 h2
 ·refine p.k j ?_
  rw[h.k j fun x h1 h2 h3=>e ⟨x,h1,h2,h3⟩]
  exact hj
theorem Dv.Il{d:Nv.D}{m:Nat}(h:Dv d m){a:Nat}(ha:a+16≤8*m){ws:List Int}(hw:∀i,i<16→0≤ws.getD i 0∧ws.getD i 0≤18446744073709551615):∀k,k≤16→
 (Nv.Il d m a ws k).2=0∧Dv (Nv.Il d m a ws k).1 m∧(∀i,i<k→Nv.get (Nv.Il d m a ws k).1.cache ((a+Nv.order.getD i 0:Nat):Int)=ws.getD (Nv.order.getD i 0) 0)∧
  (∀x:Int,(∀i,i<k→x≠((a+Nv.order.getD i 0:Nat):Int))→Nv.get (Nv.Il d m a ws k).1.cache x=Nv.get d.cache x)∧(∀j,(∀x,a≤x→x<a+16→x/8≠j)→Un (Nv.Il d m a ws k).1 j=Un d j)
 |0,_=>⟨rfl,h,fun i hi=>Y,fun x _=>rfl,fun j _=>rfl⟩
 |k+1,hk=>by
  obtain⟨h1,h2,h3,h4,h5⟩:=h.Il ha hw k Y
  have ho:=Nv.aaK k Y
  obtain⟨d',e,hs⟩:=h2.stored (a:=a+Nv.order.getD k 0) Y (hw _ ho)
  have hg:=hs.get Y h2.len
  have e2:Nv.Il d m a ws (k+1)=(d',0):=by
   rw[Nv.Wx d m a ws k h1,←e]
   congr 1
  rw[e2]
  refine⟨rfl,hs.D,fun i hi=>?_,fun x hx=>?_,fun j hj=>?_⟩
  ·rw[hg]
   split
   ·rename_i ee
    have:Nv.order.getD i 0=Nv.order.getD k 0:=Y
    rw[this]
   ·rename_i ee
    refine h3 i ?_
    rcases Nat.lt_succ_iff_lt_or_eq.1 hi with h6|rfl
    ·exact h6
    ·exact absurd rfl ee
  ·rw[hg,if_neg (hx k Y)]
   exact h4 x fun i hi=>hx i Y
  ·rw[hs.k j ?_]
   ·exact h5 j hj
   ·intro ee
    exact hj (a+Nv.order.getD k 0) Y Y ee.symm
theorem Dv.wr{d:Nv.D}{m:Nat}(h:Dv d m){a:Nat}(ha:a+16≤8*m){ws:List Int}(hw:∀i,i<16→0≤ws.getD i 0∧ws.getD i 0≤18446744073709551615):∃d',Nv.wr d m a ws=(d',0)∧Lay d d' m a 16 fun x=>ws.getD x 0:=by
 obtain⟨h1,h2,h3,h4,h5⟩:=h.Il ha hw 16 Y
 obtain⟨d',e,hp⟩:=h2.persisted (a:=a) (n:=16) ha
 refine⟨d',by rw[Nv.anm _ _ _ _ h1];exact e,Wri.lay ⟨h2,fun x hx=>?_,fun x hx=>h4 x fun i hi=>?_,h5⟩ hp⟩
 ·obtain⟨j,hj,rfl⟩:=Nv.acW x hx
  exact h3 j hj
 ·have:=Nv.aaK i hi
  omega
theorem Dv.ZJ{d:Nv.D}{m:Nat}(h:Dv d m)(hm:1≤m){ws:List Int}(hw:∀i,0≤ws.getD i 0∧ws.getD i 0≤18446744073709551615):∀k,k≤8→Wri d (Nv.ZJ d ws k) m 0 k fun x=>ws.getD x 0
 |0,_=>⟨h,fun x hx=>Y,fun x _=>rfl,fun j _=>rfl⟩
 |k+1,hk=>by
  have ih:=h.ZJ hm hw k Y
  obtain⟨d',e,hs⟩:=ih.D.stored (a:=k) Y (hw k)
  have hg:=hs.get Y ih.D.len
  have e2:Nv.ZJ d ws (k+1)=d':=by
   have e3:=Nv.Xh (m:=m) ih.D.L (a:=k) Y (ws.getD k 0)
   rw[e]at e3
   injection e3 with e3 _
   rw[e3];rfl
  rw[e2]
  refine⟨hs.D,fun x hx=>?_,fun x hx=>?_,fun j hj=>?_⟩
  ·rw[hg]
   split
   ·rename_i ee
    rw[show x=k by omega]
   ·rename_i ee
    exact ih.i x Y
  ·rw[hg,if_neg Y]
   exact ih.o x Y
  ·have ne:j≠k/8:=fun ee=>hj k Y Y ee.symm
   rw[hs.k j ne]
   exact ih.k j fun x h1 h2=>hj x h1 Y
end
end
section
section
open Go.RowKit
section
variable{g:Geo}{d:Nv.D}{m n:Nat}{w:World}
theorem am8(hE:DW (Dz g d) w)(hD:Dv d m)(hg:Wi g m)(hm:m≤100000)(hn:2≤n∧n≤256)(hmn:512≤8*m):
 Calls prog 101 [ptr g.p,.agg [.int .i64 n].toArray].toArray w fun e w'=>∃d',Lay d d' m 257 (n-1) (fun x=>Bh.enc 0 0 0 (257+x))∧e= .returned (.int .i64 0)∧Heap w (ids (Dz g d)) (Dz g d') w':=by
 have H:=GZ hE
 generalize ids (Dz g d)=I at*
 refine BM 31 func101 O (Aw (DU H O O fun p3 _ H=>qw ?_))
 refine Aw (AQ O (Au (E8 (Ec (fun z f W=>∃(b:Nat) (d1:Nv.D),1≤b∧b≤n∧z=n-b∧Wri d d1 m 257 (b-1) (fun x=>Bh.enc 0 0 0 (257+x))∧f 0=ptr g.p∧f 3=ptr p3∧f 5= .int .i64 b∧Heap w I [blk p3 [.int .i64 n] 79,grp (Dz g d1)] W) (n-1) ⟨1,d,Y,Y,rfl,⟨hD,fun x h=>Y,fun x _=>rfl,fun j _=>rfl⟩,rfl,rfl,rfl,H⟩ ?_))))
 clear H
 rintro z f W ⟨b,d1,hb1,hb,rfl,hw,f0,f3,f5,H⟩
 obtain⟨f,rfl⟩:=OE f0 f3 f5
 clear f0 f3 f5
 by_cases hlt:b<n
 ·have Yd:=fun(W:World)=>Us (n:Int) (b:Int) W Y Y
  have Yo:=fun(W:World)=>anp (b:Int) 0 0 0 W Y rfl
  have heb:=Bh.aa' 0 0 0 (256+(b:Int))
  obtain⟨d2,e2,h2⟩:=hw.D.stored (a:=256+b) Y heb
  have hg2:=h2.get Y hw.D.len
  have eai:((256+b:Nat):Int)=256+(b:Int):=Y
  have hSt:=fun{W:World} hE=>Ur (g:=g) (w:=W) hE hw.D hm e2
  rw[eai]at hSt
  refine fJ ?_
  refine BR O Ou (mQ ?_)
  refine eX ?_
  refine Aw (BF O (qR ?_))
  refine Az O (BI H O (Yd _) (MB O) fun W1 H=>Az O (AL (FP (awp) O) (BI H O (Yo _) (OJ O) fun W1 H=>s_call O (hSt (H.Bl 1 O)) (JM O) ?_)))
  rintro e W1 ⟨rfl,H'⟩
  refine⟨_,rfl,?_⟩
  have H:=H.DN 1 rfl H';clear H';simp only[Bv]at H
  refine mW ?_
  refine jy ?_
  refine⟨_,_,?_,rfl,b+1,d2,Y,Y,rfl,⟨h2.D,fun x hx=>?_,fun x hx=>?_,fun j hj=>?_⟩,rfl,rfl,rfl,H⟩
  ·omega
  ·rw[hg2]
   split
   ·rename_i e
    rw[show(257:Int)+x=256+b by omega]
   ·exact hw.i x Y
  ·rw[hg2,if_neg Y]
   exact hw.o x Y
  ·have ne:j≠(256+b)/8:=fun ee=>hj (256+b) Y Y ee.symm
   rw[h2.k j ne]
   exact hw.k j fun x h3 h4=>hj x h3 Y
 ·obtain rfl:b=n:=Y
  have Yd:∀W:World,_:=fun(W:World)=>Us (b:Int) 1 W Y Y
  rw[show(256:Int)+1=257 from rfl]at Yd
  obtain⟨d2,e2,h2⟩:=hw.D.persisted (a:=257) (n:=b-1) Y
  have e1:((b-1:Nat):Int)=(b:Int)-1:=Y
  have hPe:=fun{W:World} hE=>Wl (g:=g) (w:=W) hE hw.D hg hm e2
  rw[e1]at hPe
  refine fJ ?_
  refine BR O Ou (mQ ?_)
  refine kH ?_
  refine AP ?_
  refine Gu mixed ?_;replace H:=H.drew
  refine qh ?_
  refine Eo 3 O O O (fun _ hS=>CB O Ou) trivial ?_
  refine D6 1 4 ?_ ?_
  ·refine BO O (qR ?_)
   refine aj ?_
   refine D6 2 4 ?_ ?_
   ·refine BO O (BI H O (Yd _) (MB O) fun W1 H=>kL ?_)
    refine sU ?_
    refine Bd 6 O (s_call O (hPe (H.Bl 1 O)) (UL O) ?_)
    rintro e W1 ⟨rfl,H'⟩
    refine⟨_,rfl,?_⟩
    have H:=H.DN 1 rfl H';clear H';simp only[Bv]at H
    refine mG ?_
    refine BH (aQ ?_)
    exact⟨d2,hw.lay h2,rfl,Iw H.drop⟩
   ·refine BO O (sU ?_)
    refine Bd 2 O (BI H O (Yd _) (MB O) fun W1 H=>nH ?_)
    refine s_call O (hPe (H.Bl 1 O)) (UL O) ?_
    rintro e W1 ⟨rfl,H'⟩
    refine⟨_,rfl,?_⟩
    have H:=H.DN 1 rfl H';clear H';simp only[Bv]at H
    refine mG ?_
    refine BH (aQ ?_)
    exact⟨d2,hw.lay h2,rfl,Iw H.drop⟩
  ·refine BO O (sU ?_)
   refine Bd 1 O (qR ?_)
   refine aj ?_
   refine Bd 2 O (BI H O (Yd _) (MB O) fun W1 H=>nH ?_)
   refine s_call O (hPe (H.Bl 1 O)) (UL O) ?_
   rintro e W1 ⟨rfl,H'⟩
   refine⟨_,rfl,?_⟩
   have H:=H.DN 1 rfl H';clear H';simp only[Bv]at H
   refine mG ?_
   refine BH (aQ ?_)
   exact⟨d2,hw.lay h2,rfl,Iw H.drop⟩
theorem ai2(b id:Int)(h:2≤b∧b≤256)(hid:Zj id)(i:Nat):0≤(YC b id).getD i 0∧(YC b id).getD i 0≤18446744073709551615:=by
 have hc:=Su.agr b id
 have h1:=hid.1
 have h2:=hid.2
 match i with
 |0=>exact⟨by show(0:Int)≤8390047168116913201;omega,by show(8390047168116913201:Int)≤(18446744073709551615:Int);omega⟩
 |1=>exact⟨by show(0:Int)≤1;omega,by show(1:Int)≤(18446744073709551615:Int);omega⟩
 |2=>show 0≤b∧b≤_;omega
 |3=>exact⟨h1,h2⟩
 |4=>exact⟨by show(0:Int)≤0;omega,by show(0:Int)≤(18446744073709551615:Int);omega⟩
 |5=>exact⟨by show(0:Int)≤0;omega,by show(0:Int)≤(18446744073709551615:Int);omega⟩
 |6=>exact⟨by show(0:Int)≤0;omega,by show(0:Int)≤(18446744073709551615:Int);omega⟩
 |7=>show 0≤Su.crc b id∧Su.crc b id≤_;omega
 |j+8=>exact⟨by show(0:Int)≤0;omega,by show(0:Int)≤_;omega⟩
theorem aeu{l:List Int}(h:Im.U l)(i:Nat):0≤l.getD i 0∧l.getD i 0≤18446744073709551615:=by
 rw[Ba]
 cases e:l[i]? with
 |none=>exact⟨by show(0:Int)≤0;omega,by show(0:Int)≤_;omega⟩
 |some x=>exact h x (A8 e)
def zr8:List Int:=[0,0,0,0,0,0,0,0]
theorem ali(hE:DW (Dz g d) w)(hD:Dv d m)(hg:Wi g m)(hm:m=64*n)(hn:2≤n∧n≤256)(id:Int)(hid:Zj id):
 Calls prog 34 [ptr g.p,.int .u64 id].toArray w fun e w'=>∃d1 d2 d',Lay d d1 m 257 (n-1) (fun x=>Bh.enc 0 0 0 (257+x))∧Lay d1 d2 m 64 16 (fun x=>(KL 1 zr8).getD x 0)∧Lay d2 d' m 0 8 (fun x=>(YC n id).getD x 0)∧e= .returned (.int .i64 0)∧Heap w (ids (Dz g d)) (Dz g d') w':=by
 have H:=GZ hE
 have hcl:=hD.len
 generalize ids (Dz g d)=I at*
 have hGR:=fun(W:World)=>aeD (n:Int) W Y
 rw[Su.FY n Y Y]at hGR
 have hGW:=fun(W:World)=>YD (n:Int) W Y
 have hL:=fun{W:World} hE=>Ze g d W hE
 have eL:(d.cache.length:Int)=(n:Int)*512:=Y
 rw[eL]at hL
 have hq:IntKind.i64.wrap ((n:Int)*512/512)=n:=by rw[show(n:Int)*512/512=n by omega];exact wI Y
 have hF:=fun{W:World} hE=>am8 (g:=g) (w:=W) hE hD hg Y hn Y
 refine BM 39 func34 O (Aw (nV ?_))
 refine BI H O (hL (H.Bl 0 O)) (PV O) fun W1 H=>AL (Rf O O Y hq) (AL (FP (XF _) O) (Ea H O acy fun p5 _ H=>Eh H 0 O O O O O O O G5 ?_))
 clear H;refine ayJ fun _ H=>?_
 refine Au (AP (Aw (qR ?_)))
 refine BI H O (hGR _) (apq O) fun W1 H=>AL (EM O) (BL O (AX 15 O (Je H 0 O O O H6 G5) (s_call (EP 15 Ak O) (hGW _) (akf O) ?_)))
 rintro e W1 ⟨rfl,H'⟩
 refine⟨_,rfl,?_⟩
 have H:=H.same H';clear H'
 refine AX 15 O (MQ O) (s_call (EP 15 Ak O) (hL (H.Bl 1 O)) (PV O) ?_)
 rintro e W1 ⟨rfl,H'⟩
 refine⟨_,rfl,?_⟩
 have H:=H.same H';clear H'
 refine AX 15 O (Dc O O Y) (fE ?_)
 refine AP (Aw (BF O (qR ?_)))
 refine s_call O (hF (H.Bl 1 O)) (avJ O) ?_
 rintro e W1 ⟨d1,hy1,rfl,H'⟩
 refine⟨_,rfl,?_⟩
 have H:=H.DN 1 rfl H';clear H';simp only[Bv]at H
 refine mW ?_
 refine AO (AP (AP ?_))
 have hwr:=hy1.D.wr (a:=64) Y (ws:=KL 1 zr8) fun i _=>aeu (apV 1 zr8 ⟨Y,Y⟩) i
 obtain⟨d2,e2,hy2⟩:=hwr
 have hT:=fun{W:World} hE=>aoX g d1 m W hE hy1.D.I hg Y
 change∀{W:World},_→Calls prog 102 [ptr g.p].toArray W fun e w'=>e= .returned (.int .i64 (Nv.wr d1 m 64 (KL 1 zr8)).2)∧Heap W (ids (Dz g d1)) (Dz g (Nv.wr d1 m 64 (KL 1 zr8)).1) w' at hT
 rw[e2]at hT
 have hl2:=hy2.D.len
 have hWr:=fun{W:World} hE=>aky g d2 m (n:Int) id W hE hy2.D.I hy2.D.L hg Y Y hid Y
 obtain⟨d3,e3,hp3⟩:=(hy2.D.ZJ Y (fun i=>ai2 n id Y hid i) 8 Y).D.persisted (a:=0) (n:=8) Y
 have e3':(Nv.persist (Nv.ZJ d2 (YC n id) 8) m 0 8).1=d3:=by rw[show Nv.persist (Nv.ZJ d2 (YC n id) 8) m 0 8=(d3,0)from e3]
 rw[e3']at hWr
 refine DR (BF O (s_call O (hT (H.Bl 1 O)) (awd O) ?_))
 rintro e W1 ⟨rfl,H'⟩
 refine⟨_,rfl,?_⟩
 have H:=H.DN 1 rfl H';clear H';simp only[Bv]at H
 refine mW ?_
 refine AO (Aw (BF O (BR O Ou (mQ ?_))))
 refine Az O (AL (FP (aj3 _ _) O) (s_call O (hWr (H.Bl 1 O)) (auC O) ?_))
 rintro e W1 ⟨rfl,H'⟩
 refine⟨_,rfl,?_⟩
 have H:=H.DN 1 rfl H';clear H';simp only[Bv]at H
 refine fH ?_
 exact⟨d1,d2,d3,hy1,hy2,(hy2.D.ZJ Y (fun i=>ai2 n id Y hid i) 8 Y).lay hp3,rfl,Iw H.drop⟩
end
end
end
section
section
open Go.RowKit
section
variable{P:Program}{ops:Array Oper}{rest:List Oper}{n:Sz}{k:Nat}{f:Nat→Value}{W w0:World}{F:List Nat}{L:List Fp}{Q:Exit→Act→World→Prop}{ty:TypeId}{pos:String}{af:Array Edge}{g:Option (Nat×Bool)}{x y s:Operand}{v u:Value}{t e:TypeId}{dst:Option Tmp}
theorem apU{p o l c:Nat}{lo hi:Operand}{i m:Nat}{k1 k2:IntKind}{a b:Int}(hx:ev n f x= .slice (some ⟨p,o,none⟩) l c)(hl:ev n f lo= .int k1 a)(hh:ev n f hi= .int k2 b)(ha:a=(i:Int))(hb:b=(i:Int)+1)(hic:i<c)(h:P.underlying t=some (.slice e))(hm:∀W,(Go.sizeOf e).run P W= .ok m W):
 (execOp (ev n f) ⟨dst,.slice t x (some lo) (some hi) none,ty,pos,af,g⟩).run P W= .ok (.value (.slice (some ⟨p,o+i*m,none⟩) 1 (c-i))) W:=by
 have h1:=aut (P:=P) (W:=W) (dst:=dst) (ty:=ty) (pos:=pos) (af:=af) (g:=g) (i:=i) (j:=i+1) hx hl hh ha Y Y h hm
 rw[h1,if_neg Y,show i+1-i=1 by omega]
theorem asT{p l c:Nat}{lo hi:Operand}{i m:Nat}{k1 k2:IntKind}{a b:Int}(hx:ev n f x= .slice (some ⟨p,0,none⟩) l c)(hl:ev n f lo= .int k1 a)(hh:ev n f hi= .int k2 b)(ha:a=(i:Int))(hb:b=(i:Int)+1)(hic:i<c)(h:P.underlying t=some (.slice e))(hm:∀W,(Go.sizeOf e).run P W= .ok m W):
 (execOp (ev n f) ⟨dst,.slice t x (some lo) (some hi) none,ty,pos,af,g⟩).run P W= .ok (.value (.slice (some ⟨p,i*m,none⟩) 1 (c-i))) W:=by
 have:=apU (P:=P) (W:=W) (dst:=dst) (ty:=ty) (pos:=pos) (af:=af) (g:=g) hx hl hh ha hb hic h hm
 rw[this,DT]
theorem au1{d2:Operand}{t1:TypeId}{p q r i c1 c2:Nat}{hs:List Ob.H3}{h3:Ob.H3}{rs:List Value}(H:Heap w0 F L W)(j:Nat)(hw:Region.wanted ⟨some k,.call ⟨.builtin .copy,#[d2,y],#[t,t1]⟩,ty,pos,af,g⟩ (yl n f ops)=true)
 (hd:ev n f d2= .slice (some ⟨p,i*3,none⟩) 1 c1) (hsr:ev n f y= .slice (some ⟨q,r,none⟩) 1 c2) (hj:L[j]? =some (hrow p hs rs)) (hr:Reads (fun v:Value=>v) W q r (Ob.hcell h3)) (hi:i<hs.length) (ht:P.underlying t=some (.slice e)) {z0:Value} {bytes:Nat} (hin:Inf P e z0 3 bytes)
 (h:∀W',Heap w0 F (L.set j (hrow p (hs.set i h3) rs)) W'→SL P ops Q rest n (upd f k (.int .i64 1)) W'):SL P ops Q (⟨some k,.call ⟨.builtin .copy,#[d2,y],#[t,t1]⟩,ty,pos,af,g⟩::rest) n f W:=by
 obtain⟨ii,hii,_,hsz,_⟩:=hin.ex
 have hg:=H.NV j hj
 have e3:(Ob.hcell h3).length=3:=rfl
 have hld:=run_loadCells_list (P:=P) W ⟨q,r,none⟩ (Ob.hcell h3) (fun a u ha=>by rw[add_plain];exact hr a u ha)
 have hst:=run_storeCells_at P p (i*3) 209 (Ob.hcell h3) 0 (hcs hs++rs).toArray W hg (by simp only[Iu,Cm,V6,e3];omega) (fun v hv=>by
  simp only[Ob.hcell,Dq,Ho,or_false]at hv
  rcases hv with rfl|rfl|rfl<;>rfl)
 simp only[KF]at hst
 have hrun:(Builtin.copy_ #[t,t1] ty #[.slice (some ⟨p,i*3,none⟩) 1 c1,.slice (some ⟨q,r,none⟩) 1 c2]).run P W= .ok (goInt (1:Nat)) (W.setRow p ((hcs hs++rs).toArray.toList.take (i*3)++Ob.hcell h3++(hcs hs++rs).toArray.toList.drop (i*3+(Ob.hcell h3).length)).toArray):=by
  have hi3:ii.size=3:=hsz
  rw[e3]at hld
  simp[Builtin.copy_,run_underlying ht,Builtin.lenOf,Builtin.firstCells,sizeOf,typeInfo,hii,hi3,hld,hst]
 have H2:=H.aiv (vs:=Ob.hcell h3) (o:=i*3) j hj
 refine Hf O hw (by simp only[execOp,resolve,invoke,builtin,EK,Dx,D5,hd,hsr,Sem.run_bind,Sem.run_pure,Result.andThen_ok,hrun];rfl) (h _ ?_)
 rw[e3,aeN h3 hi]at H2
 rw[e3,aeN h3 hi]
 exact H2
end
theorem Zd.whole{hs:List Ob.H3}(h:Zd hs)(b:Nat):Ob.whole hs b=false:=by
 unfold Ob.whole
 cases e:hs[b]? with
 |none=>rfl
 |some x=>
  have:=h.kind e
  simp only
  rw[decide_eq_false Y];rfl
def WJ(hs:List Ob.H3)(L:List Int):List Ob.H3:=L.foldl (fun o a=>o.set (a/512).toNat (hs.getD (a/512).toNat (0,0,0))) (List.replicate hs.length (0,0,0))
theorem aa0(hs:List Ob.H3)(L:List Int)(a:Int):WJ hs (L++ [a])=(WJ hs L).set (a/512).toNat (hs.getD (a/512).toNat (0,0,0)):=by
 unfold WJ;rw[Jq];rfl
theorem RU(hs:List Ob.H3)(L:List Int):(WJ hs L).length=hs.length:=by
 rw[←PK L]
 induction L.reverse with
 |nil=>simp[WJ]
 |cons a r ih=>rw[RN,aa0,He,ih]
theorem XP{hs:List Ob.H3}(L:List Int){b:Nat}(hb:b<hs.length):(WJ hs L)[b]? =some (if∃a∈L,(a/512).toNat=b then hs.getD b (0,0,0)else(0,0,0)):=by
 rw[←PK L]
 induction L.reverse with
 |nil=>simp[WJ,hb]
 |cons a r ih=>
  rw[RN,aa0,Ei]
  split
  ·rename_i e
   rw[RU,if_pos Y,if_pos ⟨a,J,e⟩,e]
  ·rename_i e
   rw[ih]
   congr 1
   have:(∃x∈r.reverse,(x/512).toNat=b)↔∃x∈r.reverse++ [a],(x/512).toNat=b:=by
    constructor
    ·rintro⟨x,h1,h2⟩;exact⟨x,BQ _ h1,h2⟩
    ·rintro⟨x,h1,h2⟩
     rcases BJ.1 h1 with h1|h1
     ·exact⟨x,h1,h2⟩
     ·rw[Bf.1 h1]at h2;exact absurd h2 e
   simp only[this]
theorem ari(n q o c:Nat)(hs:List Ob.H3)(w:World)(hS:JQ w [] (some ⟨q,o,none⟩) hs)(hl:hs.length=n)(hn:2≤n∧n≤1000)(hc:n≤c)(hB:Zd hs)(LA:Option Addr)(ln lc:Nat)(l:List Int)(hSl:Gm (Value.int .i64) w [] LA l)(hll:l.length=ln)(hln:ln≤1000000)(hlb:∀a∈l,512≤a∧a<512*n):
 Calls prog 115 [.agg [.int .i64 n].toArray,.slice (some ⟨q,o,none⟩) n c,.slice LA ln lc].toArray w fun e w'=>∃p rs,e= .returned (.slice (some ⟨p,0,none⟩) n n)∧Heap w [] [hrow p (WJ hs l) rs] w':=by
 have H:=Heap.nil w
 refine BM 57 func115 O (Aw (DU H O O fun p3 _ H=>En O (Au (Aw (oI ?_)))))
 refine rF ?_
 intro p _ H';clear H;have H:=H';clear H'
 refine En O (Au (uj ?_))
 obtain⟨rs,H⟩:=H.adW (by rw[CV];omega)
 have e0:WJ hs (l.take 0)=List.replicate n (0,0,0):=by rw[←hl];rfl
 rw[←aaF,←e0]at H
 replace H:Heap w [] [hrow p (WJ hs (l.take 0)) rs,_] _:=H
 refine Ec (fun z f W=>∃(i:Nat),i≤ln∧z=ln-i∧f 1= .slice (some ⟨q,o,none⟩) n c∧f 3=ptr p3∧f 7= .slice (some ⟨p,0,none⟩) n n∧f 17= .slice LA ln lc∧f 18= .int .i64 ln∧f 19= .int .i64 i∧Heap w [] [hrow p (WJ hs (l.take i)) rs,blk p3 [.int .i64 n] 79] W) ln ⟨0,Y,rfl,rfl,rfl,rfl,rfl,rfl,rfl,H⟩ ?_
 clear H
 rintro z f W ⟨i,hi,rfl,f1,f3,f7,f17,f18,f19,H⟩
 obtain⟨f,rfl⟩:=PX f1 f3 f7 f17 f18 f19
 clear f1 f3 f7 f17 f18 f19
 by_cases hin:i<ln
 ·obtain⟨x,hx⟩:∃x,l[i]? =some x:=⟨_,Ar Y⟩
  have hxb:=hlb x (A8 hx)
  obtain⟨r,or_,rfl,hrI,hrd⟩:=hSl Y
  have cx:=hrd _ _ hx
  obtain⟨b,hb⟩:=Bo (show 0≤x/512 by omega)
  have hbn:1≤b∧b<n:=Y
  have hBo:=fun(W:World)=>adk (n:Int) x W Y Y
  rw[show JH (n:Int) x=(b:Int)by unfold JH;rw[if_pos Y,hb]]at hBo
  have hWh:=fun{W:World} (h:Only [] w W)=>akY (some ⟨q,o,none⟩) n c hs b W (hS.later h J) hl Y Y (aei hB)
  rw[hB.whole b,show Ob.Y8 hs b=0 by unfold Ob.Y8;rw[hB.whole b];rfl]at hWh
  obtain⟨h3,hh3⟩:∃h,hs[b]? =some h:=⟨_,Ar Y⟩
  have hrc:∀{W:World},Only [] w W→Reads (fun v:Value=>v) W q (o+b*3) (Ob.hcell h3):=fun{W} hO=>by
   obtain⟨q',o',e,hq',hr⟩:=hS Y
   injection e with e
   injection e with e1 e2
   subst e1;subst e2
   exact(hr b h3 hh3).later hO hq'
  have hk:(WJ hs (l.take i)).length=n:=by rw[RU];exact hl
  have hkn:(WJ hs (l.take i)).set b h3=WJ hs (l.take (i+1)):=by
   rw[←Jc hx,aa0,hb,Bz,Ba,hh3];rfl
  refine gW ?_
  refine AL (Hq H O cx hrI GU) (nG ?_)
  refine oN ?_
  refine BI H O (hBo _) (WV O) fun W1 H=>bM ?_
  refine AX 28 O (Fz O) (AX 28 O (UN O) (AX 28 O (Ey O underlying128) (AX 28 O (F7 O O Y) (fE ?_))))
  refine Aw (qw ?_)
  refine Aw (CY O (Az O (BI H O (hWh H.only) (afb O) fun W1 H=>aX ?_)))
  refine Au (Aw (BL O (dX ?_)))
  refine Gu mixed ?_;replace H:=H.drew
  refine Eo 0 O O O (fun _ hS=>BP (v:= .slice _ _ _) O) trivial (Eo 1 O O O (fun _ hS=>BP (v:= .int _ _) O) trivial (Eo 2 O O O (fun _ hS=>BP (v:= .int _ _) O) trivial (fU ?_)))
  refine Eo 4 O O O (fun _ hS=>Dk O O (wI Y)) trivial (Eo 5 O O O (fun _ hS=>asT (i:=b) O O O O O Y underlying128 EC) trivial (Eo 6 O O O (fun _ hS=>BP (v:= .slice _ _ _) O) trivial (Eo 7 O O O (fun _ hS=>BP (v:= .int _ _) O) trivial (Eo 8 O O O (fun _ hS=>BP (v:= .int _ _) O) trivial (Eo 9 O O O (fun _ hS=>BP (v:= .int _ _) O) trivial (Eo 10 O O O (fun _ hS=>Dk O O (wI Y)) trivial (Eo 11 O O O (fun _ hS=>apU (i:=b) O O O O O Y underlying128 EC) trivial (Bd 12 O (au1 (i:=b) H 0 O O O O (hrc H.only) Y underlying128 J9 ?_)))))))))
  clear H;intro _ H
  simp only[Bv]at H
  refine jm ?_
  exact⟨_,_,Y,rfl,i+1,Y,rfl,rfl,rfl,rfl,rfl,rfl,rfl,by rw[←hkn];exact H⟩
 ·obtain rfl:i=ln:=Y
  rw[show l.take i=l by rw[←hll];exact DL]at H
  refine uS ?_
  refine CY O (oZ ?_)
  exact⟨p,rs,rfl,H.drops (A:=[_])⟩
end
end
section
section
open Go.RowKit
theorem aq3{f:Nat→Value}{k1 k2 k3 k4 k5 k6 k7:Nat}{v1 v2 v3 v4 v5 v6 v7:Value}(h1:f k1=v1)(h2:f k2=v2)(h3:f k3=v3)(h4:f k4=v4)(h5:f k5=v5)(h6:f k6=v6)(h7:f k7=v7):∃g,f=upd (upd (upd (upd (upd (upd (upd g k1 v1) k2 v2) k3 v3) k4 v4) k5 v5) k6 v6) k7 v7:=⟨f,by rw[upd_same h1,upd_same h2,upd_same h3,upd_same h4,upd_same h5,upd_same h6,upd_same h7]⟩
def ahf(ks:List Ob.H3)(b:Nat):Int:=Bh.enc (ks.getD b (0,0,0)).1 (ks.getD b (0,0,0)).2.1 (ks.getD b (0,0,0)).2.2 (256+(b:Int))
theorem aoc{g:Geo}{d:Nv.D}{m n p1 c1 p2 c2:Nat}{hs ks:List Ob.H3}{r1 r2:List Value}{w:World}(hE:DW [grp (Dz g d),hrow p1 hs r1,hrow p2 ks r2] w)(hD:Dv d m)(hg:Wi g m)(hm:m≤100000)(hn:2≤n∧n≤256)(hmn:512≤8*m)(hl:hs.length=n)(hk:ks.length=n)
 (hd:aci d.cache hs) (hkr:∀(b:Nat) (h:Ob.H3),ks[b]? =some h→Bh.right h.1 h.2.1 h.2.2=true):
 Calls prog 114 [ptr g.p,.agg [.int .i64 n].toArray,.slice (some ⟨p1,0,none⟩) n c1,.slice (some ⟨p2,0,none⟩) n c2].toArray w fun e w'=>∃d',Lay d d' m 257 (n-1) (fun x=>ahf ks (1+x))∧e= .returned (.int .i64 0)∧Heap w (ids [grp (Dz g d),hrow p1 hs r1,hrow p2 ks r2]) [grp (Dz g d'),hrow p1 hs r1,hrow p2 ks r2] w':=by
 have H:=Heap.start hE
 generalize ids [grp (Dz g d),hrow p1 hs r1,hrow p2 ks r2]=I at*
 refine BM 50 func114 O (Aw (DU H O O fun p5 _ H=>nG ?_))
 refine BN O (Au (tC ?_))
 refine Ec (fun z f W=>∃(b:Nat) (d1:Nv.D) (q:Bool),1≤b∧b≤n∧z=n-b∧Wri d d1 m 257 (b-1) (fun x=>ahf ks (1+x))∧(q=false→d1=d)∧f 0=ptr g.p∧f 2= .slice (some ⟨p1,0,none⟩) n c1∧f 3= .slice (some ⟨p2,0,none⟩) n c2∧f 5=ptr p5∧f 9= .bool q∧f 10= .int .i64 b∧Heap w I [grp (Dz g d1),hrow p1 hs r1,hrow p2 ks r2,blk p5 [.int .i64 n] 79] W) (n-1) ⟨1,d,false,Y,Y,rfl,⟨hD,fun x h=>Y,fun x _=>rfl,fun j _=>rfl⟩,fun _=>rfl,rfl,rfl,rfl,rfl,rfl,rfl,H.order [1,2,3,0] O O⟩ ?_
 clear H
 rintro z f W ⟨b,d1,q,hb1,hb,rfl,hw,hq,f0,f2,f3,f5,f9,f10,H⟩
 obtain⟨f,rfl⟩:=PX f0 f2 f3 f5 f9 f10
 clear f0 f2 f3 f5 f9 f10
 by_cases hlt:b<n
 ·obtain⟨⟨h1,h2,h3⟩,hh⟩:∃h,hs[b]? =some h:=⟨_,Ar Y⟩
  obtain⟨⟨k1,k2,k3⟩,hkk⟩:∃h,ks[b]? =some h:=⟨_,Ar Y⟩
  have hke:ahf ks b=Bh.enc k1 k2 k3 (256+(b:Int)):=by unfold ahf;rw[Ba,hkk];rfl
  by_cases he:h1=k1∧h2=k2∧h3=k3
  ·obtain⟨rfl,rfl,rfl⟩:=he
   refine iG ?_
   refine BK (fun _ H=>afh (q:=true) O O Ak Ak Ak Ak underlying3 underlying3 underlying3 (decide_eq_true ⟨rfl,rfl,rfl⟩)) (H8 ?_)
   clear H;intro _ H
   refine AO (EI O (DZ (Cb (EG (AO (fA ?_))))))
   refine⟨_,_,?_,rfl,b+1,d1,q,Y,Y,rfl,⟨hw.D,fun x hx=>?_,fun x hx=>hw.o x Y,fun j hj=>hw.k j fun x h3 h4=>hj x h3 Y⟩,hq,rfl,rfl,rfl,rfl,rfl,rfl,H⟩
   ·omega
   ·by_cases e:x=b-1
    ·subst e
     rw[hw.o _ Y,show 1+(b-1)=b by omega,hke,←(hd.at_ b _ hb1 hh).2]
     congr 1
     omega
    ·exact hw.i x Y
  ·have Yd:=fun(W:World)=>Us (n:Int) (b:Int) W Y Y
   have Yo:=fun(W:World)=>anp (b:Int) k1 k2 k3 W Y (hkr b _ hkk)
   have heb:=Bh.aa' k1 k2 k3 (256+(b:Int))
   obtain⟨d2,e2,h2_⟩:=hw.D.stored (a:=256+b) Y heb
   have hg2:=h2_.get Y hw.D.len
   have eai:((256+b:Nat):Int)=256+(b:Int):=Y
   have hSt:=fun{W:World} hE=>Ur (g:=g) (w:=W) hE hw.D hm e2
   rw[eai]at hSt
   rw[←hke]at Yo hSt
   refine iG ?_
   refine BK (fun _ H=>afh (q:=false) O O Ak Ak Ak Ak underlying3 underlying3 underlying3 (decide_eq_false he)) (H8 ?_)
   clear H;intro _ H
   refine AO (DX O (Bj (AO (qU ?_))))
   refine AP ?_
   refine Jj (fun f W=>f 0=ptr g.p∧f 2= .slice (some ⟨p1,0,none⟩) n c1∧f 3= .slice (some ⟨p2,0,none⟩) n c2∧f 5=ptr p5∧f 9= .bool true∧f 10= .int .i64 b∧f 11= .int .i64 0∧Heap w I [grp (Dz g d2),hrow p1 hs r1,hrow p2 ks r2,blk p5 [.int .i64 n] 79] W) ?_ ?_
   ·refine Gu mixed ?_;replace H:=H.drew
    refine qg ?_
    refine Dj 2 O O O (fun _ hS=>BP (v:= .int _ _) O) trivial (qE ?_)
    refine Dj 5 O O O (fun _ hS=>BP (v:= .slice _ _ _) O) trivial (lT ?_)
    refine Dj 7 O O O (fun _ hS=>PS (i:=b) O O Y Y underlying128 EC) trivial ?_
    refine D6 1 8 ?_ ?_
    ·refine BO O (Dn H 3 O O O H6 G5 (aj ?_))
     refine D6 3 8 ?_ ?_
     ·refine BO O (BI H O (Yd _) (MB O) fun W1 H=>aj ?_)
      refine Bd 8 O (AL (afv H 2 O O hkk Iy EC) (aj ?_))
      refine Bd 9 O (BI H O (Yo _) (OJ O) fun W1 H=>qC ?_)
      refine s_call O (hSt (H.Bl 0 O)) (JM O) ?_
      rintro e W1 ⟨rfl,H'⟩
      refine⟨_,rfl,?_⟩
      have H:=H.DN 0 rfl H';clear H';simp only[Bv]at H
      refine rW ?_
      exact⟨rfl,rfl,rfl,rfl,rfl,rfl,rfl,H⟩
     ·refine BO O (AL (afv H 2 O O hkk Iy EC) (qx ?_))
      refine BI H O (Yd _) (MB O) fun W1 H=>aj ?_
      refine Bd 9 O (BI H O (Yo _) (OJ O) fun W1 H=>qC ?_)
      refine s_call O (hSt (H.Bl 0 O)) (JM O) ?_
      rintro e W1 ⟨rfl,H'⟩
      refine⟨_,rfl,?_⟩
      have H:=H.DN 0 rfl H';clear H';simp only[Bv]at H
      refine rW ?_
      exact⟨rfl,rfl,rfl,rfl,rfl,rfl,rfl,H⟩
    ·refine BO O (AL (afv H 2 O O hkk Iy EC) (tH ?_))
     refine Dn H 3 O O O H6 G5 (qx ?_)
     refine BI H O (Yd _) (MB O) fun W1 H=>aj ?_
     refine Bd 9 O (BI H O (Yo _) (OJ O) fun W1 H=>qC ?_)
     refine s_call O (hSt (H.Bl 0 O)) (JM O) ?_
     rintro e W1 ⟨rfl,H'⟩
     refine⟨_,rfl,?_⟩
     have H:=H.DN 0 rfl H';clear H';simp only[Bv]at H
     refine rW ?_
     exact⟨rfl,rfl,rfl,rfl,rfl,rfl,rfl,H⟩
   clear H
   rintro f W ⟨f0,f2,f3,f5,f9,f10,f11,H⟩
   obtain⟨f,rfl⟩:=aq3 f0 f2 f3 f5 f9 f10 f11
   clear f0 f2 f3 f5 f9 f10 f11
   refine AO (aT ?_)
   refine jy ?_
   refine⟨_,_,?_,rfl,b+1,d2,true,Y,Y,rfl,⟨h2_.D,fun x hx=>?_,fun x hx=>?_,fun j hj=>?_⟩,fun h=>(by cases h),rfl,rfl,rfl,rfl,rfl,rfl,H⟩
   ·omega
   ·rw[hg2]
    split
    ·rename_i e
     rw[show 1+x=b by omega,hke]
    ·exact hw.i x Y
   ·rw[hg2,if_neg Y]
    exact hw.o x Y
   ·have ne:j≠(256+b)/8:=fun ee=>hj (256+b) Y Y ee.symm
    rw[h2_.k j ne]
    exact hw.k j fun x h3 h4=>hj x h3 Y
 ·obtain rfl:b=n:=Y
  cases q with
  |false=>
   have HQ:=H
   obtain rfl:=hq rfl
   refine fJ ?_
   refine oI ?_
   refine kH ?_
   refine AP (Aw (BL O (AL (Jm O) (fV ?_))))
   exact⟨d1,⟨hw.D,hw.i,hw.o,fun j hj=>hj⟩,rfl,HQ.Ew [0,1,2] rfl rfl⟩
  |true=>
   have Yd:∀W:World,_:=fun(W:World)=>Us (b:Int) 1 W Y Y
   rw[show(256:Int)+1=257 from rfl]at Yd
   obtain⟨d2,e2,h2⟩:=hw.D.persisted (a:=257) (n:=b-1) Y
   have e1:((b-1:Nat):Int)=(b:Int)-1:=Y
   have hPe:=fun{W:World} hE=>Wl (g:=g) (w:=W) hE hw.D hg hm e2
   rw[e1]at hPe
   refine fJ ?_
   refine oI ?_
   refine kH ?_
   refine AP (Aw (BL O (gK ?_)))
   refine Aw (BF O (Dn H 3 O O O H6 G5 (BI H O (Yd _) (MB O) fun W1 H=>oI ?_)))
   refine nK ?_
   refine s_call O (hPe (H.Bl 0 O)) (UL O) ?_
   rintro e W1 ⟨rfl,H'⟩
   refine⟨_,rfl,?_⟩
   have H:=H.DN 0 rfl H';clear H';simp only[Bv]at H
   refine fH ?_
   exact⟨d2,hw.lay h2,rfl,H.Ew [0,1,2] rfl rfl⟩
end
end
section
section
open Go.RowKit
structure Le (d:Nv.D) (m n:Nat) (id:Int) (hs:List Ob.H3) (k:Nat) (E:Int) (R:List Int):Prop where
 dv:Dv d m
 hm:m=64*n
 n2:2≤n∧n≤256
 hid:Zj id
 su:gets d.cache 8=YC n id
 hd:aci d.cache hs
 hl:hs.length=n
 sm:Zd hs
 ck:U2 (EL d.cache 64 16) (EL d.cache 128 16)=(k:Int)
 ce:chE (EL d.cache 64 16) (EL d.cache 128 16)=E
 cr:chR (EL d.cache 64 16) (EL d.cache 128 16)=R
 k1:k=0∨k=1
 E1:1≤E∧E≤1000
 R8:Rts R
theorem Le.len{d:Nv.D}{m n:Nat}{id:Int}{hs:List Ob.H3}{k:Nat}{E:Int}{R:List Int}(h:Le d m n id hs k E R):d.cache.length=512*n:=by
 have:=h.dv.len;have:=h.hm;omega
theorem Le.Rb{d:Nv.D}{m n:Nat}{id:Int}{hs:List Ob.H3}{k:Nat}{E:Int}{R:List Int}(h:Le d m n id hs k E R):∀r∈R,0≤r∧r<131072:=fun r hr=>by
 have:=h.R8.2;unfold St.okR at this;have:=this r hr;omega
section
variable{g:Geo}{d:Nv.D}{m n k:Nat}{id E:Int}{hs:List Ob.H3}{R:List Int}{A:Int→Prop}{w:World}
theorem ajZ(hE:DW (Dz g d) w)(hk:Le d m n id hs k E R)(hG:Tr.Good (Ob.pl n d.cache hs) (Ob.ptrs d.cache) R A)(B:Option Addr)(c:Nat)(hS:JQ w [] B hs)(FA:Option Addr)(fc:Nat)(hF:Gm (Value.int .i64) w [] FA R):
 Calls prog 174 [ptr g.p,.agg [.int .i64 n].toArray,.slice B n c,.slice FA 8 fc].toArray w fun e w'=>∃L A' c',Tr.acw (Ob.pl n d.cache hs) (Ob.ptrs d.cache) R L∧e= .returned (.tuple [.slice A' L.length c',.int .i64 0].toArray)∧Heap w [] [Dw 1 (.slice A' L.length c') L.length (L.map (Value.int .i64)) 3] w':=by
 have hl:=hk.len
 have hn:=hk.n2
 have hRb:=hk.Rb
 refine(ajx hE hk.dv.U Y hS hk.hl Y (aei hk.sm) Y FA 8 fc R hF hk.R8.1 Y (fun a ha=>⟨by have:=hRb a ha;omega,by have:=hRb a ha;omega⟩)).mono ?_
 rintro e w' ⟨N,s1,rfl,h1,h2,h3⟩
 obtain⟨hb,hL⟩:=Tr.alL hG h1 h2 (VQ _)
 rcases h3 with⟨h4,_⟩|⟨_,A',c',rfl,H⟩
 ·exact absurd hb h4
 ·have hlen:=(VQ (Tr.steps (Ob.pl n d.cache hs) (Ob.ptrs d.cache) (Tr.Gl (Ob.pl n d.cache hs) Tr.s0 R R.length) N).seen).length_eq
  rw[←hlen]at H⊢
  exact⟨_,A',c',hL,rfl,H⟩
theorem ahX(hE:DW (Dz g d) w)(hk:Le d m n id hs k E R):
 Calls prog 62 [ptr g.p].toArray w fun e w'=>∃t,e= .returned (.tuple #[ptr t,.int .i64 0])∧Heap w [] [blk t (MP g.p E R k R) 220] w':=by
 refine(avc g d w hE hk.dv.U).mono ?_
 rw[hk.ck,hk.ce,hk.cr]
 rintro e w' (⟨h,_⟩|⟨_,h⟩)
 ·have:=hk.k1;omega
 ·exact h
theorem apd(hE:DW (Dz g d) w)(hk:Le d m n id hs k E R):
 Calls prog 172 [ptr g.p].toArray w fun e w'=>e= .returned (.tuple #[.agg [.int .i64 n,.int .u64 id].toArray,.int .i64 0])∧Only [] w w':=by
 have hn:=hk.n2
 have hl:=hk.len
 have h:=atV g d n id 0 w hE (by rw[hk.su];exact alD n id Y hk.hid)
 rw[if_pos ⟨rfl,Y⟩,if_pos ⟨rfl,Y⟩]at h
 exact h
theorem aq9(hE:DW (Dz g d) w)(hk:Le d m n id hs k E R)(hG:Tr.Good (Ob.pl n d.cache hs) (Ob.ptrs d.cache) R A):
 Calls prog 113 [ptr g.p].toArray w fun e w'=>∃t p c rs L LA lc,Tr.acw (Ob.pl n d.cache hs) (Ob.ptrs d.cache) R L∧n≤c∧e= .returned (.tuple #[.agg [.int .i64 n,.int .u64 id,.int .i64 n,.pointer none,ptr t,.slice LA L.length lc].toArray,.slice (some ⟨p,0,none⟩) n c,.int .i64 0])∧
  Heap w [] [blk t (MP g.p E R k R) 220,hrow p hs rs,Dw 1 (.slice LA L.length lc) L.length (L.map (Value.int .i64)) 3] w':=by
 have HR:=Heap.start hE
 have H:=Heap.nil w
 have hl:=hk.len
 have hn:=hk.n2
 have hSu:=fun{W:World} (h:Only [] w W)=>apd (HR.same h).ents hk
 have hBk:=fun{W:World} (h:Only [] w W)=>amW g d n hs W (HR.same h).ents hk.dv.U hk.hd hk.hl Y
 have hRo:=fun{W:World} (h:Only [] w W)=>ahX (HR.same h).ents hk
 have hCl:=fun{W:World} (h:Only [] w W)=>ajZ (HR.same h).ents hk hG
 have hLa:=fun{t:Nat} {W:World} hE=>aby t g.p E k R R W hE hk.R8.1 hk.R8.1
 obtain⟨v0,v1,v2,v3,v4,v5,v6,v7,hR⟩:=O3 hk.R8.1
 have hRm:(R.map (Value.int .i64))=[.int .i64 v0,.int .i64 v1,.int .i64 v2,.int .i64 v3,.int .i64 v4,.int .i64 v5,.int .i64 v6,.int .i64 v7]:=by rw[hR];rfl
 rw[hRm]at hLa
 refine BM 65 func113 O (Aw (Ea H O adN fun p2 _ H=>En O (nV ?_)))
 refine BI H O (hSu H.only) (avI O) fun W1 H=>aO ?_
 refine Ea H O Xt fun p5 _ H=>Eh H 0 O O O O O O O TA ?_
 clear H;refine ayJ fun _ H=>?_
 refine nR ?_
 refine Aw (BR O aan (mQ ?_))
 refine AL (FP (XF _) O) (Ea H O acy fun p7 _ H=>Eh H 0 O O O O O O O G5 ?_)
 clear H;refine ayJ fun _ H=>?_
 refine Au (Aw (BF O (qR ?_)))
 refine s_call O (hBk H.only) (aqa O) ?_
 rintro e W1 ⟨p,c,rs,rfl,hc,H'⟩
 refine⟨_,rfl,?_⟩
 have H:=H.more H';clear H';simp only[Bv]at H
 refine kG ?_
 refine DK O O (En O (AQ O (nR ?_)))
 refine Aw (BF O (s_call O (hRo H.only) (atl O) ?_))
 rintro e W1 ⟨t,rfl,H'⟩
 refine⟨_,rfl,?_⟩
 have H:=H.more H';clear H';simp only[Bv]at H
 refine dU ?_
 refine nR ?_
 refine Aw (BF O (BI H O (hLa H.part) (asR O) fun W1 H=>Ea H O Vg fun p11 _ H=>wu ?_))
 clear H;refine ayJ fun _ H=>?_
 refine Au (AP ?_)
 refine Gu mixed ?_;replace H:=H.drew
 refine qh ?_
 refine Eo 2 O O O (fun _ hS=>BP (v:= .slice _ _ _) O) trivial (Eo 3 O O O (fun _ hS=>ai5 O underlying103 Kz Y) trivial (Bd 1 O (Dn H 3 O O O H6 G5 (kL ?_))))
 refine s_call O (hCl H.only _ c (H.Yq 2 O) _ 8 (fun _=>⟨p11,0,rfl,J,H.V3 0 O hRm.symm⟩)) (auM O) ?_
 rintro e W1 ⟨L,LA,lc,hL,rfl,H'⟩
 refine⟨_,rfl,?_⟩
 have H:=H.more H';clear H';simp only[Bv]at H
 refine aj ?_
 refine Eo 5 O O O (fun _ hS=>BP (v:= .tuple _) O) trivial (Eo 6 O O O (fun _ hS=>CG (v:= .slice _ _ _) O O) trivial (Eo 7 O O O (fun _ hS=>CG (v:= .int _ _) O O) trivial (Eo 8 O O O (fun _ hS=>DJ (v:= .slice _ _ _) O) trivial (Eo 9 O O O (fun _ hS=>DJ (v:= .int _ _) O) trivial (CJ (AO (gy ?_)))))))
 refine Aw (Dn H 5 O O O adh TA (Dn H 4 O O O H6 G5 (BF O (CY O (AL (FP (ach _ _ _ _ _ _ _) O) (CY O (Eh H 6 O O O O O O O abL ?_)))))))
 clear H;refine ayJ fun _ H=>?_
 refine En O (AQ O (Au (BH (ab4 O (IG H 6 O O O akV abL) (Jp (v:= .slice _ _ _) O) (Jp (v:= .int _ _) O) ?_))))
 exact⟨t,p,c,rs,L,LA,lc,hL,hc,rfl,H.Ew [2,3,0] rfl rfl⟩
end
end
end
section
section
theorem TV{c c':List Int}:∀k,(∀x:Nat,x<k→Nv.get c' x=Nv.get c x)→gets c' k=gets c k
 |0,_=>rfl
 |k+1,h=>by rw[gets,gets,TV k (fun x hx=>h x Y),h k Y]
theorem Oj{c c':List Int}{a:Nat}:∀k,(∀x:Nat,x<k→Nv.get c' ((a:Int)+x)=Nv.get c ((a:Int)+x))→EL c' a k=EL c a k
 |0,_=>rfl
 |k+1,h=>by rw[EL,EL,Oj k (fun x hx=>h x Y),h k Y]
theorem Yk{c c':List Int}{a:Int}(hl:c'.length=c.length)(h:Nv.get c' a=Nv.get c a):Ob.hd c' a=Ob.hd c a∧Ob.hp c' a=Ob.hp c a∧Ob.hq c' a=Ob.hq c a:=by
 have h1:Ob.hd c' a=Ob.hd c a:=by unfold Ob.hd;rw[hl,h]
 refine⟨h1,?_,?_⟩
 ·unfold Ob.hp;rw[h1,h]
 ·unfold Ob.hq;rw[h1,h]
theorem afa{n:Nat}{c c':List Int}{hs hs':List Ob.H3}{a:Int}(hl:c'.length=c.length)(h:Nv.get c' a=Nv.get c a)(hB:Zd hs)(hB':Zd hs')(hh:hs'[(a/512).toNat]? =hs[(a/512).toNat]?):Ob.pl n c' hs' a=Ob.pl n c hs a:=by
 obtain⟨e1,e2,e3⟩:=Yk hl h
 unfold Ob.pl
 rw[e1,hh]
 cases hs[(a/512).toNat]? with
 |none=>rfl
 |some x=>
  simp only
  unfold Ob.ahm
  rw[e2,e3,hB.whole,hB'.whole]
theorem abr{c c':List Int}{a:Int}(ha:512≤a)(hl:c'.length=c.length)(h:∀x:Int,512≤x→Nv.get c' x=Nv.get c x):Ob.ptrs c' a=Ob.ptrs c a:=by
 have e:=(Yk hl (h a ha)).2.1
 unfold Ob.ptrs
 rw[e]
 unfold Ob.OI
 refine EU fun i _=>?_
 unfold Ob.pAt
 rw[h _ Y]
section
variable{d d':Nv.D}{m n k:Nat}{id E:Int}{hs:List Ob.H3}{R L:List Int}
theorem Zd.keep(h:Zd hs)(L:List Int):Zd (WJ hs L):=fun x hx=>by
 obtain⟨b,hb,e⟩:=DY.1 hx
 have hbl:b<hs.length:=by rw[RU]at hb;exact hb
 have h1:=XP L hbl
 rw[Ar hb]at h1
 injection h1 with h1
 rw[e]at h1
 split at h1
 ·rw[h1,Ba,Ar hbl]
  exact h _ (FT _)
 ·exact .inl h1
theorem apE{a:Int}(hl:hs.length=n)(ha:a∈L)(hb:512≤a∧a<512*n):(WJ hs L)[(a/512).toNat]? =hs[(a/512).toNat]? :=by
 have h1:(a/512).toNat<hs.length:=Y
 rw[XP L h1,if_pos ⟨a,ha,rfl⟩,Ar h1,Ba,Ar h1]
 rfl
theorem afK(h:Le d m n id hs k E R):∀(b:Nat) (x:Ob.H3),(WJ hs L)[b]? =some x→Bh.right x.1 x.2.1 x.2.2=true:=fun b x hx=>by
 have hbl:b<hs.length:=by
  have:=(BA.1 hx).1
  rw[RU]at this;exact this
 rw[XP L hbl]at hx
 injection hx with hx
 subst hx
 split
 ·by_cases h0:b=0
  ·subst h0
   rw[Ba,h.hd.h0];rfl
  ·have hb:hs[b]? =some (hs.getD b (0,0,0)):=by rw[Ba,Ar hbl];rfl
   exact(h.hd.at_ b _ Y hb).1
 ·rfl
theorem Le.keep(h:Le d m n id hs k E R)(hL:∀a∈L,512≤a∧a<512*n)(hy:Lay d d' m 257 (n-1) fun x=>ahf (WJ hs L) (1+x)):Le d' m n id (WJ hs L) k E R:=by
 have hn:=h.n2
 have hl:=h.hl
 have e1:EL d'.cache 64 16=EL d.cache 64 16:=Oj 16 fun x hx=>hy.o _ Y
 have e2:EL d'.cache 128 16=EL d.cache 128 16:=Oj 16 fun x hx=>hy.o _ Y
 refine⟨hy.D,h.hm,h.n2,h.hid,(TV 8 fun x hx=>hy.o _ Y).trans h.su,⟨?_,fun b x hb hx=>⟨afK h b x hx,?_⟩⟩,by rw[RU];exact hl,h.sm.keep L,by rw[e1,e2];exact h.ck,by rw[e1,e2];exact h.ce,by rw[e1,e2];exact h.cr,h.k1,h.E1,h.R8⟩
 ·rw[XP L Y,if_neg]
  rintro⟨a,ha,e⟩
  have:=hL a ha
  omega
 ·have hbl:b<n:=by
   have:=(BA.1 hx).1
   rw[RU]at this;omega
  have hi:=hy.i (b-1) Y
  rw[show 1+(b-1)=b by omega]at hi
  rw[show(256:Int)+(b:Int)=((257+(b-1):Nat):Int)by omega,hi]
  unfold ahf
  rw[Ba,hx]
  simp only[TK]
  congr 1
  omega
end
end
end
section
section
open Go.RowKit
structure Opened (d d':Nv.D) (m n:Nat) (id:Int) (hs:List Ob.H3) (k:Nat) (E:Int) (R L:List Int) (s:JZ) (N:Nat):Prop where
 live:Tr.acw (Ob.pl n d.cache hs) (Ob.ptrs d.cache) R L
 dev:Le d' m n id (WJ hs L) k E R
 o:∀x:Int,512≤x→Nv.get d'.cache x=Nv.get d.cache x
 k:∀j,Un d j=false→Un d' j=false
 al:I8 d'.cache s N fun _=>False
 sn:s.n=n
 sh:s.hs=WJ hs L
 nn:N≤256*n
 us:∀a,Gz s.U a=decide (a∈L)
theorem Y9{α:Type}{enc:α→Value}{size:Nat}{w0 W:World}{F:List Nat}{L A B:List Fp}(H:Heap w0 F L W){LA:Option Addr}{n c:Nat}{xs:List α}{T:TypeId}(hL:L=A++Dw size (.slice LA n c) n (xs.map enc) T::B):Gm enc W (ids A) LA xs:=fun h0=>by
 subst hL
 obtain⟨b,e,hb,hr⟩:=H.LZ A.length (by rw[D8 (Bg _),GX];rfl) h0
 refine⟨b,0,e,fun hm=>?_,hr⟩
 have hnd:=H.nd
 rw[F8,EW]at hnd
 exact(CS.1 hnd).2.2 b hm b (BQ _ hb) rfl
section
variable{g:Geo}{d:Nv.D}{m n k:Nat}{id E:Int}{hs:List Ob.H3}{R:List Int}{A:Int→Prop}{w:World}
theorem asi(hE:DW (Dz g d) w)(hg:Wi g m)(hk:Le d m n id hs k E R)(hG:Tr.Good (Ob.pl n d.cache hs) (Ob.ptrs d.cache) R A):
 Calls prog 50 [ptr g.p].toArray w fun e w'=>∃d' t L LA lc s N,Opened d d' m n id hs k E R L s N∧e= .returned (.tuple #[.agg [.int .i64 n,.int .u64 id,.int .i64 n,ptr s.pA,ptr t,.slice LA L.length lc].toArray,.int .i64 0])∧
  Heap w (ids (Dz g d)) [grp (alE g d' s),blk t (MP g.p E R k R) 220,Dw 1 (.slice LA L.length lc) L.length (L.map (Value.int .i64)) 3] w':=by
 have H:=GZ hE
 have hl:=hk.len
 have hn:=hk.n2
 have hm:=hk.hm
 have hLk:=fun{W:World} hE=>aq9 (g:=g) (w:=W) hE hk hG
 generalize ids (Dz g d)=I at*
 refine BM 59 func50 O (Aw (Ea H O adN fun p2 _ H=>nV ?_))
 refine s_call O (hLk (H.Bl 1 O)) (atx O) ?_
 rintro e W1 ⟨t,p,c,rs,L,LA,lc,hL,hc,rfl,H'⟩
 refine⟨_,rfl,?_⟩
 have H:=H.more H';clear H';simp only[Bv]at H
 refine xI ?_
 refine AL (CG (v:= .slice _ _ _) O O) (DK O O (Ea H O adN fun p4 _ H=>Eh H 0 O O O O O O O abL ?_))
 clear H;refine ayJ fun _ H=>?_
 refine En O (nR ?_)
 refine AP (AP ?_)
 refine Jj (fun f W=>f 0=ptr g.p∧f 2=ptr p2∧f 4=ptr p4∧f 7= .int .i64 0∧∃d',Lay d d' m 257 (n-1) (fun x=>ahf (WJ hs L) (1+x))∧Heap w I [grp (Dz g d'),blk p4 [.int .i64 n,.int .u64 id,.int .i64 n,.pointer none,ptr t,.slice LA L.length lc] 115,blk t (MP g.p E R k R) 220,Dw 1 (.slice LA L.length lc) L.length (L.map (Value.int .i64)) 3,blk p2 [.int .i64 0,.int .u64 0,.int .i64 0,.pointer none,.pointer none,.slice none 0 0] 115] W) ?_ ?_
 ·have hLb:∀a∈L,512≤a∧a<512*(n:Int):=fun a ha=>by have:=Ob.L8 (hL.pl a ha);omega
  have hLn:L.length≤512*n:=Tr.QF _ _ hL.nd fun a ha=>by have:=hLb a ha;omega
  have hKp:=fun{W:World} (h1:JQ W [] (some ⟨p,0,none⟩) hs) (h2:Gm (Value.int .i64) W [] LA L)=>ari n p 0 c hs W h1 hk.hl Y hc hk.sm LA L.length lc L h2 rfl Y hLb
  have hWr:=fun{q:Nat} {rq:List Value} {W:World} hE=>aoc (g:=g) (d:=d) (m:=m) (n:=n) (p1:=p) (c1:=c) (p2:=q) (c2:=n) (hs:=hs) (ks:=WJ hs L) (r1:=rs) (r2:=rq) (w:=W) hE hk.dv hg Y hn Y hk.hl (by rw[RU];exact hk.hl) hk.hd (afK hk)
  refine acA (A:=[_]) mixed H [0] O ?_;replace H:=H.drew
  refine uO ?_
  refine Dj 1 O O O (fun _ hS=>CB O aey) (H.Ew [0] O O) (Dj 2 O O O (fun _ hS=>JU hS 0 (vs:=[.int .i64 n]) O O O O H6 G5) (H.Ew [0] O O) (Dj 3 O O O (fun _ hS=>BP (v:= .slice _ _ _) O) (H.Ew [0] O O) (Dj 4 O O O (fun _ hS=>CB O aey) (H.Ew [0] O O) (Dj 5 O O O (fun _ hS=>JU hS 0 (vs:=[.int .i64 n]) O O O O H6 G5) (H.Ew [0] O O) (Dj 6 O O O (fun _ hS=>BP (v:= .slice _ _ _) O) (H.Ew [0] O O) (Dj 7 O O O (fun _ hS=>CB O aav) (H.Ew [0] O O) (Dj 8 O O O (fun _ hS=>Ef hS 0 O O O Fg) (H.Ew [0] O O) (Bd 9 O (s_call O (hKp (H.Yq 2 O) (JX H 3 O)) (auY O) ?_)))))))))
  rintro e W1 ⟨q,rq,rfl,H'⟩
  refine⟨_,rfl,?_⟩
  have H:=H.more H';clear H';simp only[Bv]at H
  refine qF ?_
  refine Bd 10 O ?_
  refine s_call O ((by have H2:Heap w I ([_,_,_]++ [_,_,_,_]) _:=H.order [6,3,0,1,2,4,5] O O;exact hWr H2.part)) (awq O) ?_
  rintro e W1 ⟨d',hy,rfl,H'⟩
  refine⟨_,rfl,?_⟩
  have H2:Heap w I ([_,_,_]++ [_,_,_,_]) _:=H.order [6,3,0,1,2,4,5] rfl rfl;have H3:=H2.step H' (fun i hi=>hi);clear H H' H2;simp only[Bv]at H3;have H:Heap w I [_,_,_,_,_,_,_] _:=H3.order [0,3,4,5,6,1,2] rfl rfl;clear H3
  refine qF ?_
  refine Dj 11 O O O (fun _ hS=>DJ (v:= .int _ _) O) (H.Ew [1] O O) (CJ (Dt ?_))
  exact⟨rfl,rfl,rfl,rfl,d',hy,H.Ew [0,1,2,3,4] rfl rfl⟩
 clear H
 rintro f W ⟨f0,f2,f4,f7,d',hy,H⟩
 obtain⟨f,rfl⟩:=Ih f0 f2 f4 f7
 clear f0 f2 f4 f7
 have hLb:∀a∈L,512≤a∧a<512*(n:Int):=fun a ha=>by have:=Ob.L8 (hL.pl a ha);omega
 have hLn:L.length≤512*n:=Tr.QF _ _ hL.nd fun a ha=>by have:=hLb a ha;omega
 have hk':=hk.keep hLb hy
 have hl':=hk'.len
 have hMn:=fun{W:World} hE=>arR g d' n (WJ hs L) W hE hk'.dv.U hk'.hd hk'.sm hk'.hl Y
 have hpl:∀a∈L,Ob.pl n d'.cache (WJ hs L) a=true:=fun a ha=>by
  have hb:=hLb a ha
  rw[afa Y (hy.o a Y) hk.sm (hk.sm.keep L) (apE hk.hl ha hb)]
  exact hL.pl a ha
 refine AO (aT ?_)
 refine AO (Aw (BF O (BR O aey (AL (JU H 1 (vs:=[.int .i64 n]) O O O O H6 G5) (s_call O (hMn (H.Bl 0 O)) (awE O) ?_)))))
 rintro e W1 ⟨pM,pT,pp,cc,rr,pX,bS,bE,S,E',rfl,hnc,hro,H'⟩
 refine⟨_,rfl,?_⟩
 have H:=H.more H';clear H';simp only[mnE,EJ,EH]at H
 refine dU ?_
 refine nR ?_
 refine AP ?_
 have H2:Heap w I ((grp (Dz g d')::mnE g n pM pT pp (WJ hs L) rr cc pX bS bE S E')++ [Dw 1 (.slice LA L.length lc) L.length (L.map (Value.int .i64)) 3,blk p4 [.int .i64 n,.int .u64 id,.int .i64 n,.pointer none,ptr t,.slice LA L.length lc] 115,blk t (MP g.p E R k R) 220,blk p2 [.int .i64 0,.int .u64 0,.int .i64 0,.pointer none,.pointer none,.slice none 0 0] 115]) _:=H.order [4,0,1,2,3,7,5,6,8] rfl rfl
 have HP:Heap w I [blk p4 [.int .i64 n,.int .u64 id,.int .i64 n,.pointer none,ptr t,.slice LA L.length lc] 115] _:=H.Ew [5] rfl rfl
 clear H
 have hNw:=fun{W:World} hE hS=>aui g d' n pM pT pp (WJ hs L) rr cc pX bS bE S E' W hE hk'.dv.U ⟨hk'.hl,hn,hk'.sm,hk'.hd,hro,Y⟩ LA L.length lc L hS rfl Y hL.nd hpl
 obtain⟨mE,hmE⟩:∃X,mnE g n pM pT pp (WJ hs L) rr cc pX bS bE S E'=X:=⟨_,rfl⟩
 rw[hmE]at hNw H2
 refine DR (BF O (BF O (BR O aav (AL (Ef HP 0 O O O Fg) (s_call O (hNw H2.part (Y9 H2 O)) (atT O) ?_)))))
 rintro e W1 ⟨s,N,hal,hsn,hsh,hN,hus,rfl,H'⟩
 refine⟨_,rfl,?_⟩
 have H:=Heap.agS (H2.step H' (fun i hi=>hi));clear H2 HP H';change Heap w I [grp (alE g d' s),_,_,_,_] _ at H
 refine D9 O (AL (CG (v:= .pointer _) O O) (DK O O (BR O aae (Ic (u:= .pointer _) H 2 O O O O O O atj ?_))))
 clear H;refine ayJ fun _ H=>?_
 refine nR ?_
 refine Aw (Dn H 2 O O O akV abL (Eh H 4 O O O O O O O abL ?_))
 clear H;refine ayJ fun _ H=>?_
 refine AQ O (Au (BH (NJ O (IG H 4 O O O akV abL) (Jp (v:= .int _ _) O) ?_)))
 exact⟨d',t,L,LA,lc,s,N,⟨hL,hk',fun x hx=>hy.o x Y,hy.k,hal,hsn,hsh,hN,hus⟩,rfl,H.Ew [0,3,1] rfl rfl⟩
end
end
end
section
section
open Go.RowKit
theorem arA{P:Program}{n:Sz}{f:Nat→Value}{W:World}{dst:Option Tmp}{ty:TypeId}{pos:String}{af:Array Edge}{g:Option (Nat×Bool)}{fn:Go.Fn}{x:Operand}{p:Option Addr}(hx:ev n f x= .pointer p):
 (execOp (ev n f) ⟨dst,.makeFunc fn #[x] #[],ty,pos,af,g⟩).run P W= .ok (.value (.func fn #[.pointer p] #[])) W:=by
 simp only[execOp,Instr.makeFunc,Sem.run_bind,Sem.run_pure,Result.andThen_ok,EK,Dx,D5,hx]
structure Ko where
 s:JZ
 pH:Nat
 t:Nat
 k:Nat
 E:Int
 R:List Int
 V:List Int
 rg:List Int
 hP:Nat
 hS:Nat
 hB:Nat
 hC:Nat
 hA:Option Addr
 hL:List Bool
 pC:Nat
 pK:Nat
 pW:Nat
 fv:Value
 cr:List Fp
 sP:Nat
 sB:Nat
 sC:Nat
 sA:Option Addr
 sL:List Bool
def Ko.C(g:Geo)(h:Ko):List Value:=hpC g.p h.s.pA h.t h.rg h.hP h.pC h.sP
def Ko.L(g:Geo)(d:Nv.D)(h:Ko):List Fp:=
 [blk h.pH (h.C g) 111,grp (alE g d h.s),blk h.t (MP g.p h.E h.R h.k h.V) 220,grp (hdE h.s.pA h.hP h.hS h.hB h.hA h.hC h.hL),blk h.pC (cyC h.s.pA h.pK h.pW h.fv 0 0 0) 199,grp (JJ h.sP h.sB h.sA h.sC h.sL),grp h.cr]
structure Ia (d:Nv.D) (m n:Nat) (id:Int) (h:Ko) (N:Nat):Prop where
 dev:Le d m n id h.s.hs h.k h.E h.R
 al:I8 d.cache h.s N fun _=>False
 sn:h.s.n=n
 V8:Rts h.V
 r32:h.rg.length=32
 hs:Ib h.hB h.hA h.hC h.hL
 hl:h.hL.length=512*n
 ss:Ib h.sB h.sA h.sC h.sL
theorem akr{α:Type}{enc:α→Value}{size:Nat}{w0 W:World}{F:List Nat}{A:List Fp}{LA:Option Addr}{n c:Nat}{xs:List α}{T:TypeId}(H:Heap w0 F [grp A,Dw size (.slice LA n c) n (xs.map enc) T] W):Gm enc W (ids A) LA xs:=
 (Y9 (A:=[grp A]) (B:=[]) H rfl).mono fun i hi=>by simpa [ids,grp]using hi
section
variable{g:Geo}{d:Nv.D}{m n k:Nat}{id E:Int}{hs:List Ob.H3}{R:List Int}{A:Int→Prop}{w:World}
theorem ana(most:Int)(alk:0≤most)(hE:DW (Dz g d) w)(hg:Wi g m)(hk:Le d m n id hs k E R)(hG:Tr.Good (Ob.pl n d.cache hs) (Ob.ptrs d.cache) R A):
 Calls prog 12 [ptr g.p,.int .i64 most].toArray w fun e w'=>∃d' L h N,Opened d d' m n id hs k E R L h.s N∧Ia d' m n id h N∧h.k=k∧h.E=E∧h.R=R∧h.V=R∧h.rg=List.replicate 32 0∧e= .returned (.tuple #[ptr h.pH,.int .i64 0])∧
  Heap w (ids (Dz g d)) (h.L g d') w':=by
 have H:=GZ hE
 have hl:=hk.len
 have hn:=hk.n2
 generalize ids (Dz g d)=I at*
 have hOp:=fun{W:World} hE=>asi (g:=g) (w:=W) hE hg hk hG
 refine BM 63 func12 O (Aw (EX O (nV ?_)))
 refine s_call O (hOp (H.Bl 0 O)) (axz O) ?_
 rintro e W1 ⟨d',t,L,LA,lc,s,N,hop,rfl,H'⟩
 refine⟨_,rfl,?_⟩
 have H:=(Iw H).whole H';clear H'
 refine aO ?_
 refine Ea H O adN fun p6 _ H=>Eh H 0 O O O O O O O abL ?_
 clear H;refine ayJ fun _ H=>?_
 refine nR ?_
 refine AP ?_
 refine Jj (fun f W=>∃pH hP hS hB hC sP sB sC hA sA,f 1= .int .i64 most∧f 6=ptr p6∧f 8=ptr pH∧Ib hB hA hC (List.replicate d'.cache.length false)∧Ib sB sA sC (List.replicate d'.cache.length false)∧Heap w I [blk pH [ptr g.p,ptr s.pA,ptr t,.int .i64 0,.int .i64 0,.int .i64 0,.int .i64 0,.int .i64 0,.int .i64 0,.int .i64 0,.int .i64 0,.int .i64 0,.int .i64 0,.int .i64 0,.int .i64 0,.int .i64 0,.int .i64 0,.int .i64 0,.int .i64 0,.int .i64 0,.int .i64 0,.int .i64 0,.int .i64 0,.int .i64 0,.int .i64 0,.int .i64 0,.int .i64 0,.int .i64 0,.int .i64 0,.int .i64 0,.int .i64 0,.int .i64 0,.int .i64 0,.int .i64 0,.int .i64 0,ptr hP,.pointer none,ptr sP,.bool false] 111,blk p6 [.int .i64 n,.int .u64 id,.int .i64 n,ptr s.pA,ptr t,.slice LA L.length lc] 115,grp (alE g d' s),blk t (MP g.p E R k R) 220,Dw 1 (.slice LA L.length lc) L.length (L.map (Value.int .i64)) 3,grp (hdE s.pA hP hS hB hA hC (List.replicate d'.cache.length false)),grp (JJ sP sB sA sC (List.replicate d'.cache.length false))] W) ?_ ?_
 ·have hl':=hop.dev.len
  have hHd:=fun{W:World} hE=>aqm g d' s W hE Y
  have hLn:=fun{W:World} hE=>Ze g d' W hE
  have hNw:=fun(W:World)=>bNew d'.cache.length W Y
  refine acA (A:=[_]) mixed H [0] O ?_;replace H:=H.drew
  refine uO ?_
  refine Dj 1 O O O (fun _ hS=>CB O aae) (H.Ew [0] O O) (Dj 2 O O O (fun _ hS=>Ef hS 0 O O O Om) (H.Ew [0] O O) (Dj 3 O O O (fun _ hS=>CB O anW) (H.Ew [0] O O) (Dj 4 O O O (fun _ hS=>Ef hS 0 O O O acU) (H.Ew [0] O O) (Dj 5 O O O (fun _ hS=>CB O aae) (H.Ew [0] O O) (Dj 6 O O O (fun _ hS=>Ef hS 0 O O O Om) (H.Ew [0] O O) (Dj 8 O O O (fun _ hS=>BP (v:= .pointer _) O) (H.Ew [0] O O) (Bd 7 O (s_call O (hHd (H.Bl 1 O)) (auT O) ?_))))))))
  rintro e W1 ⟨hP,hS,hB,hA,hC,rfl,hs1,H'⟩
  refine⟨_,rfl,?_⟩
  have H:=H.more H';clear H';simp only[Bv]at H
  refine qF ?_
  refine Bd 9 O (BI H O (hLn (Heap.Bl (Heap.start (H.Bl 2 O)) 0 O)) (PV O) fun W1 H=>qF ?_)
  refine Bd 10 O (s_call O (hNw _) (anc O) ?_)
  rintro e W1 ⟨sP,sB,sA,sC,rfl,hs2,H'⟩
  refine⟨_,rfl,?_⟩
  have H:=H.more (A:=[grp _]) (Hw H');clear H';simp only[Bv]at H
  refine AA (Bc (H.Ew [2] O O) (Dj 11 O O O (fun _ hS=>FP (ZH _ _ _ _ _) O) (H.Ew [2] O O) (Bd 12 O (DU H O O fun p31 _ H=>AA (Bc (H.Ew [3] O O) (Dj 13 O O O (fun _ hS=>DJ (v:= .pointer _) O) (H.Ew [3] O O) (CJ (Dt ?_))))))))
  first|exact⟨p31,hP,hS,hB,hC,sP,sB,sC,hA,sA,rfl,rfl,rfl,hs1,hs2,H.order [0,3,4,5,6,2,1] rfl rfl⟩|exact⟨p31,hP,hS,hB,hC,sP,sB,sC,hA,sA,rfl,rfl,rfl,hs1,hs2,H.order [0,3,4,5,6,1,2] rfl rfl⟩
 clear H
 rintro f W ⟨pH,hP,hS,hB,hC,sP,sB,sC,hA,sA,f1,f6,f8,hs1,hs2,H⟩
 obtain⟨f,rfl⟩:=OE f1 f6 f8
 clear f1 f6 f8
 have hl':=hop.dev.len
 have hCy:=fun{fn:Nat} {B C:Array Value} {W:World} hE=>avU g d' s most fn B C W hE Y alk
 have hh:∀a,Gz s.U a=true→Ob.hd d'.cache a=true:=fun a ha=>(Ob.L8 (hop.al.us a ha)).2.2
 have hLb:∀a∈L,512≤a∧a<512*(n:Int):=fun a ha=>by have:=Ob.L8 (hop.live.pl a ha);omega
 have hLn:L.length≤512*n:=Tr.QF _ _ hop.live.nd fun a ha=>by have:=hLb a ha;omega
 refine AO (Aw (BF O (BR O aae (BD H 1 O O O Om (Az O (BF O (AL (arA O) (s_call O (hCy (H.Bl 2 O)) (ax5 O) ?_))))))))
 rintro e W1 ⟨pC,pW,pK,pS,p1,b1,c1,p2,b2,c2,A1,A2,rfl,hc1,hc2,H'⟩
 refine⟨_,rfl,?_⟩
 have H:=H.more H';clear H';simp only[Bv]at H
 refine Dl O (BR O aay (Ic (u:= .pointer _) H 3 O O O O O O auA ?_))
 clear H;refine ayJ fun _ H=>?_
 refine Au (AP ?_)
 refine Jj (fun f W=>∃hl2,Ot d' s (List.replicate d'.cache.length false) hl2 L∧f 6=ptr p6∧f 8=ptr pH∧Heap w I [blk pH [ptr g.p,ptr s.pA,ptr t,.int .i64 0,.int .i64 0,.int .i64 0,.int .i64 0,.int .i64 0,.int .i64 0,.int .i64 0,.int .i64 0,.int .i64 0,.int .i64 0,.int .i64 0,.int .i64 0,.int .i64 0,.int .i64 0,.int .i64 0,.int .i64 0,.int .i64 0,.int .i64 0,.int .i64 0,.int .i64 0,.int .i64 0,.int .i64 0,.int .i64 0,.int .i64 0,.int .i64 0,.int .i64 0,.int .i64 0,.int .i64 0,.int .i64 0,.int .i64 0,.int .i64 0,.int .i64 0,ptr hP,ptr pC,ptr sP,.bool false] 111,grp (alE g d' s),blk t (MP g.p E R k R) 220,grp (hdE s.pA hP hS hB hA hC hl2),blk pC (cyC s.pA pK pW (.func (.func 55) #[ptr pH] #[]) 0 0 0) 199,grp (JJ sP sB sA sC (List.replicate d'.cache.length false)),blk pW [ptr s.pA,ptr pK,.int .i64 s.n,.slice none 0 0] 276,grp (mkE s.pA pK pS p1 b1 c1 p2 b2 c2 A1 A2 (List.replicate d'.cache.length false) (List.replicate d'.cache.length false) [.slice none 0 0,.int .i64 most,.int .i64 0] false d'.cache.length),blk p6 [.int .i64 n,.int .u64 id,.int .i64 n,ptr s.pA,ptr t,.slice LA L.length lc] 115,Dw 1 (.slice LA L.length lc) L.length (L.map (Value.int .i64)) 3] W) ?_ ?_
 ·have hRs:=fun{W:World} hE hQ=>aea (g:=g) (d:=d') (s:=s) (w:=W) (pH:=hP) (pS:=hS) (b:=hB) (A:=hA) (c:=hC) (l:=List.replicate d'.cache.length false) hE hop.dev.dv.U Y hop.al.su hh hs1 LA L.length lc L hQ rfl Y (fun a ha=>⟨by have:=hLb a ha;omega,by have:=hLb a ha;omega⟩)
  rw[CV]at hRs
  refine acA (A:=[_,_]) mixed H [3,4] O ?_;replace H:=H.drew
  refine Dj 0 O O O (fun _ hS=>BP (v:= .pointer _) O) (H.Ew [3,4] O O) (Dj 1 O O O (fun _ hS=>ES O) (H.Ew [3,4] O O) (Dj 2 O O O (fun _ hS=>CB O aah) (H.Ew [3,4] O O) (Dj 3 O O O (fun _ hS=>Ef hS 0 O O O ait) (H.Ew [3,4] O O) (Dj 4 O O O (fun _ hS=>CB O aav) (H.Ew [3,4] O O) (Dj 5 O O O (fun _ hS=>Ef hS 1 O O O Fg) (H.Ew [3,4] O O) (Bd 6 O (s_call O (hRs (H.Ew [5,8] O O).ents (akr (H.Ew [8,7] O O))) (arK O) ?_)))))))
  rintro e W1 ⟨hl2,hst,rfl,H'⟩
  refine⟨_,rfl,?_⟩
  have H:=H.DN 8 rfl H';clear H';simp only[Bv]at H
  refine AA (Bc (H.Ew [3,4] O O) (CJ (Dt ?_)))
  exact⟨hl2,hst,rfl,rfl,H.order [3,5,6,8,0,9,1,2,4,7] rfl rfl⟩
 clear H
 rintro f W ⟨hl2,hst,f6,f8,H⟩
 obtain⟨f,rfl⟩:=VT f6 f8
 clear f6 f8
 refine AO (AP (Aw (BR O aav (BD H 8 O O O Fg (eU ?_)))))
 refine tV ?_
 have axO:=hs2
 have ayE:L.length≤131072:=Y
 refine Ec (fun z f W=>∃(i:Nat) (l1:List Bool),i≤L.length∧z=L.length-i∧Ib sB sA sC l1∧f 8=ptr pH∧f 49= .slice LA L.length lc∧f 50= .int .i64 L.length∧f 51= .int .i64 i∧Heap w I [blk pH [ptr g.p,ptr s.pA,ptr t,.int .i64 0,.int .i64 0,.int .i64 0,.int .i64 0,.int .i64 0,.int .i64 0,.int .i64 0,.int .i64 0,.int .i64 0,.int .i64 0,.int .i64 0,.int .i64 0,.int .i64 0,.int .i64 0,.int .i64 0,.int .i64 0,.int .i64 0,.int .i64 0,.int .i64 0,.int .i64 0,.int .i64 0,.int .i64 0,.int .i64 0,.int .i64 0,.int .i64 0,.int .i64 0,.int .i64 0,.int .i64 0,.int .i64 0,.int .i64 0,.int .i64 0,.int .i64 0,ptr hP,ptr pC,ptr sP,.bool false] 111,grp (alE g d' s),blk t (MP g.p E R k R) 220,grp (hdE s.pA hP hS hB hA hC hl2),blk pC (cyC s.pA pK pW (.func (.func 55) #[ptr pH] #[]) 0 0 0) 199,grp (JJ sP sB sA sC l1),grp [blk pW [ptr s.pA,ptr pK,.int .i64 s.n,.slice none 0 0] 276,grp (mkE s.pA pK pS p1 b1 c1 p2 b2 c2 A1 A2 (List.replicate d'.cache.length false) (List.replicate d'.cache.length false) [.slice none 0 0,.int .i64 most,.int .i64 0] false d'.cache.length)],Dw 1 (.slice LA L.length lc) L.length (L.map (Value.int .i64)) 3] W) L.length ⟨0,_,Y,rfl,axO,rfl,rfl,rfl,rfl,(Heap.agS (H.Ew [6,7,0,1,2,3,4,5,9] O O:Heap w I ([_,_]++ [_,_,_,_,_,_,_]) _)).order [1,2,3,4,5,6,0,7] O O⟩ ?_
 clear H
 rintro z f W ⟨i,l1,hi,rfl,hs3,f8,f49,f50,f51,H⟩
 by_cases hlt:i<L.length
 ·obtain⟨x,hx⟩:∃x,L[i]? =some x:=⟨_,Ar hlt⟩
  obtain⟨q,rfl⟩:=H.JC 7 rfl Y
  have hAd:=fun{W:World} hE=>anR (p:=sP) hs3 W hE x
  obtain⟨f,rfl⟩:=Ih f8 f49 f50 f51
  clear f8 f49 f50 f51
  refine ak ?_
  refine xq ?_
  refine AL (L9 H 7 O O hx GU) (AQ O (Au (sN ?_)))
  refine BR O aez (BD H 0 O O O PN (Az O (s_call O (hAd (H.Bl 5 O)) (ajf O) ?_)))
  rintro e W1 ⟨rfl,H'⟩
  refine⟨_,rfl,?_⟩
  have H:=H.DN 5 rfl H';clear H';simp only[Bv]at H
  refine vG ?_
  exact⟨_,_,Y,rfl,i+1,_,Y,rfl,hs3.put' _ _,rfl,rfl,rfl,rfl,H⟩
 ·obtain⟨f,rfl⟩:=Ih f8 f49 f50 f51
  clear f8 f49 f50 f51
  refine uS ?_
  refine BF O (qZ ?_)
  exact⟨d',L,⟨s,pH,t,k,E,R,R,List.replicate 32 0,hP,hS,hB,hC,hA,hl2,pC,pK,pW,_,_,sP,sB,sC,sA,l1⟩,N,hop,⟨by rw[hop.sh];exact hop.dev,hop.al,hop.sn,hk.R8,CV,hs1.len2 hst.len,by rw[hst.len,CV];exact hl',hs3⟩,rfl,rfl,rfl,rfl,rfl,rfl,H.Ew [0,1,2,3,4,5,6] rfl rfl⟩
end
end
end
section
section
theorem I8.words{c c':List Int}{s:JZ}{N:Nat}{X:Int→Prop}(h:I8 c s N X)(hl:c'.length=c.length)(hh:∀x:Int,256≤x→x<512→Nv.get c' x=Nv.get c x)(hu:∀a,Gz s.U a=true→Nv.get c' a=Nv.get c a):I8 c' s N X:=by
 refine⟨h.hl,h.n2,h.sm,⟨h.hd.h0,fun b x b1 b2=>?_⟩,h.rn,h.su,h.ul,h.fs,h.fr,by rw[hl];exact h.cl,fun a ha=>?_,h.fm⟩
 ·have h1:=h.hd.at_ b x b1 b2
  have hb:=(BA.1 b2).1
  have h2:=h.hl
  have h3:=h.n2
  exact⟨h1.1,by rw[hh _ Y Y];exact h1.2⟩
 ·rw[afa hl (hu a ha) h.sm h.sm rfl];exact h.us a ha
def Rl(c:List Int)(a:Int):Int:=1+Ob.hp c a+Ob.hq c a
theorem I8.obj{c:List Int}{s:JZ}{N:Nat}{X:Int→Prop}(h:I8 c s N X)(hw:Ob.SQ c){a:Int}(ha:Gz s.U a=true):∃k:Nat,k<32∧Kw s.hs s.n k a∧Ob.hd c a=true∧512≤a∧1≤Rl c a∧Rl c a≤Cl.words k∧a+Cl.words k≤512*s.n:=by
 obtain⟨h1,h2,k,h3,h4,h5⟩:=(abk h.sm h.hl a).1 (h.us a ha)
 have hb:=h5.bd h3
 have hp:=Ob.NG hw a
 rw[Ob.aiR hw]at h2 h4
 have hz:1≤1+Ob.hp c a+Ob.hq c a∧1+Ob.hp c a+Ob.hq c a≤256:=by simpa [Cl.ofB]using h2
 have hle:=(Cl.SY _ hz.1 hz.2).le
 rw[h4]at hle
 exact⟨k,h3,h5,h1,hb.1,by unfold Rl;omega,by unfold Rl;omega,hb.2⟩
theorem I8.apart{c:List Int}{s:JZ}{N:Nat}{X:Int→Prop}(h:I8 c s N X)(hw:Ob.SQ c){a b y:Int}(ha:Gz s.U a=true)(hb:Gz s.U b=true)(hne:a≠b)(h1:a≤y∧y<a+Rl c a):¬(b≤y∧y<b+Rl c b):=by
 intro h2
 obtain⟨k,k1,k2,_,_,_,k3,_⟩:=h.obj hw ha
 obtain⟨j,j1,j2,_,_,_,j3,_⟩:=h.obj hw hb
 have e1:=k2.apart j2 k1 j1 (fun e=>hne e.symm)
 have e2:=j2.apart k2 j1 k1 hne
 omega
theorem Sto.gets{d d':Nv.D}{m a:Nat}{v:Int}(h:Sto d d' m a v)(hl:d.cache.length=8*m)(ha:a<8*m):∀x:Int,x≠a→Nv.get d'.cache x=Nv.get d.cache x:=fun x hx=>by rw[h.get ha hl,if_neg hx]
structure Fld (c c':List Int) (a x:Int):Prop where
 len:c'.length=c.length
 bd:a<x∧x<a+Rl c a
 o:∀y,y≠x→Nv.get c' y=Nv.get c y
section
variable{c c':List Int}{s:JZ}{N:Nat}{X:Int→Prop}{a x:Int}
theorem Fld.off(f:Fld c c' a x)(h:I8 c s N X)(hw:Ob.SQ c)(ha:Gz s.U a=true){b:Int}(hb:Gz s.U b=true):Nv.get c' b=Nv.get c b:=by
 refine f.o b fun e=>?_
 have hx:=f.bd
 by_cases hab:a=b
 ·omega
 ·obtain⟨j,_,_,_,_,j3,_,_⟩:=h.obj hw hb
  exact h.apart hw ha hb hab (y:=x) ⟨Y,hx.2⟩ ⟨Y,Y⟩
theorem Fld.far(f:Fld c c' a x)(h:I8 c s N X)(hw:Ob.SQ c)(ha:Gz s.U a=true):512≤x∧x<c.length:=by
 have hx:=f.bd
 obtain⟨k,k1,k2,_,k3,_,k4,k5⟩:=h.obj hw ha
 have:=h.cl
 omega
theorem Fld.al(f:Fld c c' a x)(h:I8 c s N X)(hw:Ob.SQ c)(ha:Gz s.U a=true):I8 c' s N X:=by
 have h5:=f.far h hw ha
 exact h.words f.len (fun y h1 h2=>f.o y Y) fun b hb=>f.off h hw ha hb
theorem Fld.hd(f:Fld c c' a x)(h:I8 c s N X)(hw:Ob.SQ c)(ha:Gz s.U a=true){b:Int}(hb:Gz s.U b=true):Ob.hd c' b=Ob.hd c b∧Ob.hp c' b=Ob.hp c b∧Ob.hq c' b=Ob.hq c b:=XV f.len (f.off h hw ha hb)
theorem Fld.other(f:Fld c c' a x)(h:I8 c s N X)(hw:Ob.SQ c)(ha:Gz s.U a=true){b:Int}(hb:Gz s.U b=true)(hne:a≠b){y:Int}(hy:b≤y∧y<b+Rl c b):Nv.get c' y=Nv.get c y:=by
 refine f.o y fun e=>?_
 subst e
 have hx:=f.bd
 exact h.apart hw ha hb hne ⟨Y,hx.2⟩ hy
end
theorem Le.words{d d':Nv.D}{m n k:Nat}{id E:Int}{hs hs':List Ob.H3}{R:List Int}(h:Le d m n id hs k E R)(D:Dv d' m)(hd:aci d'.cache hs')(hl:hs'.length=n)(sm:Zd hs')(hx:∀x:Int,x<256→Nv.get d'.cache x=Nv.get d.cache x):Le d' m n id hs' k E R:=by
 have e1:EL d'.cache 64 16=EL d.cache 64 16:=Oj 16 fun x hx1=>hx _ Y
 have e2:EL d'.cache 128 16=EL d.cache 128 16:=Oj 16 fun x hx1=>hx _ Y
 exact⟨D,h.hm,h.n2,h.hid,(TV 8 fun x hx1=>hx _ Y).trans h.su,hd,hl,sm,by rw[e1,e2];exact h.ck,by rw[e1,e2];exact h.ce,by rw[e1,e2];exact h.cr,h.k1,h.E1,h.R8⟩
end
end
section
section
theorem amk(ws:Nat)(m:Nat)(x:Int):Nv.get (Nv.load (List.replicate ws 0) m).cache x=0:=by
 unfold Nv.get
 split
 ·show(List.replicate ws (0:Int)).getD _ 0=0
  simp only[List.getD,D7];split<;>rfl
 ·rfl
theorem alF(ws:List Int)(m j:Nat):Un (Nv.load ws m) j=false:=acM m j
theorem Dv.load{ws:List Int}{m:Nat}(hl:ws.length=8*m)(hw:Ob.SQ ws):Dv (Nv.load ws m) m:=⟨Nv.Inv.load ws m hl,⟨rfl,rfl⟩,hw⟩
theorem YI(l ws:List Int)(a:Nat)(hw:ws.length=16)(h:∀i:Nat,i<16→Nv.get l ((a:Int)+(i:Int))=ws.getD i 0):EL l a 16=ws:=by
 rw[VY]
 apply FU (by simp[hw])
 intro i h1 h2
 rw[Hr,J7,h i (by simpa using h1),Ba,Ar h2];rfl
theorem afP(l ws:List Int):∀k,k≤ws.length→(∀i:Nat,i<k→Nv.get l (i:Int)=ws.getD i 0)→gets l k=ws.take k
 |0,_,_=>rfl
 |k+1,hk,h=>by
  rw[gets,afP l ws k Y (fun i hi=>h i Y),h k Y,Fj,Ba,Ar Y];rfl
theorem anK:Rts zr8:=⟨rfl,by
 intro r hr
 simp[zr8]at hr
 subst hr;omega⟩
theorem Le.format{d d1 d2 d':Nv.D}{m n:Nat}{id:Int}(hm:m=64*n)(hn:2≤n∧n≤256)(hid:Zj id)(hz:∀x,Nv.get d.cache x=0)(hc:∀j,Un d j=false)(h1:Lay d d1 m 257 (n-1) fun x=>Bh.enc 0 0 0 (257+x))(h2:Lay d1 d2 m 64 16 fun x=>(KL 1 zr8).getD x 0)(h3:Lay d2 d' m 0 8 fun x=>(YC n id).getD x 0):
 Le d' m n id (List.replicate n (0,0,0)) 0 1 zr8∧(∀j,Un d' j=false)∧∀x:Int,512≤x→Nv.get d'.cache x=0:=by
 have e1:EL d'.cache 64 16=KL 1 zr8:=YI _ _ 64 (abm _ _) fun i hi=>by
  rw[h3.o _ Y]
  have:=h2.i i hi
  rw[←this];congr 1
 have e2:EL d'.cache 128 16=[0,0,0,0,0,0,0,0,0,0,0,0,0,0,0,0]:=YI _ _ 128 rfl fun i hi=>by
  rw[h3.o _ Y,h2.o _ Y,h1.o _ Y,hz]
  rw[show [0,0,0,0,0,0,0,0,0,0,0,0,0,0,0,(0:Int)]=List.replicate 16 0 from rfl]
  simp only[List.getD,D7];split<;>rfl
 obtain⟨k1,k2,k3⟩:=Qx 1 zr8 Y anK
 have hk:U2 (KL 1 zr8) [0,0,0,0,0,0,0,0,0,0,0,0,0,0,0,0]=0:=by
  unfold U2;rw[if_pos ⟨k1,.inl an6⟩]
 obtain⟨c1,c2⟩:=ch0 hk
 refine⟨⟨h3.D,hm,hn,hid,?_,⟨?_,fun b x hb hx=>?_⟩,J,?_,by rw[e1,e2,hk];rfl,by rw[e1,e2,c1,k2],by rw[e1,e2,c2,k3],.inl O,Y,anK⟩,fun j=>h3.k j (h2.k j (h1.k j (hc j))),fun x hx=>?_⟩
 ·have:=afP d'.cache (YC n id) 8 (by show 8≤8;omega) fun i hi=>by
   have:=h3.i i hi
   rw[show((i:Nat):Int)=((0+i:Nat):Int)by omega];exact this
  rw[this];exact Ez (by show 8≤8;omega)
 ·rw[D7,if_pos Y]
 ·rw[D7]at hx
  split at hx
  ·injection hx with hx
   subst hx
   refine⟨Bh.EO _ _ _ (.inl ⟨rfl,rfl,rfl⟩),?_⟩
   rw[h3.o _ Y,h2.o _ Y]
   have:=h1.i (b-1) Y
   rw[show(256:Int)+(b:Int)=((257+(b-1):Nat):Int)by omega,this]
   rw[show(257:Int)+((b-1:Nat):Int)=256+(b:Int)by omega]
   rw[show((257+(b-1):Nat):Int)=256+(b:Int)by omega]
  ·cases hx
 ·intro x hx
  exact .inl (Jb hx)
 ·rw[h3.o _ Y,h2.o _ Y,h1.o _ Y,hz]
theorem Dv.avC{d:Nv.D}{m a:Nat}(h:Dv d m)(ha:a+16≤8*m)(E:Int):∃d',Nv.wi d m a E=(d',0)∧Dv d' m∧(∀x:Int,¬((a:Int)≤x∧x<a+16)→Nv.get d'.cache x=Nv.get d.cache x)∧∀j,Un d j=false→Un d' j=false:=by
 unfold Nv.wi
 split
 ·exact⟨d,rfl,h,fun _ _=>rfl,fun _ h=>h⟩
 ·obtain⟨d1,e1,s1⟩:=h.stored (a:=a) (v:=0) Y Y
  obtain⟨d2,e2,s2⟩:=s1.D.stored (a:=a+8) (v:=0) Y Y
  have w1:Nv.JB d m a 1=(d1,0):=by
   rw[Nv.WC d m a 0 rfl,←e1];congr 1
  have w2:Nv.JB d m a 2=(d2,0):=by
   rw[Nv.WC d m a 1 (by rw[w1]),w1,←e2];congr 1
  obtain⟨d3,e3,p3⟩:=s2.D.persisted (a:=a) (n:=16) Y
  have g1:=s1.get Y h.len
  have g2:=s2.get Y s1.D.len
  rw[w2,if_pos rfl]
  refine⟨d3,e3,p3.D,fun x hx=>by rw[p3.c,g2,if_neg Y,g1,if_neg Y],fun j hj=>?_⟩
  by_cases c1:j=a/8
  ·rw[c1];exact p3.q a (Bg _) Y
  ·by_cases c2:j=(a+8)/8
   ·rw[c2];exact p3.q (a+8) Y Y
   ·exact p3.k j (by rw[s2.k j c2,s1.k j c1];exact hj)
theorem Le.commit{d:Nv.D}{m n k:Nat}{id E:Int}{hs:List Ob.H3}{R V:List Int}(h:Le d m n id hs k E R)(hV:Rts V)(hE:E≤999):
 ∃d',Nv.cm d m E k (KL (E+1) V)=(d',0)∧Le d' m n id hs (1-k) (E+1) V∧(∀x:Int,256≤x→Nv.get d'.cache x=Nv.get d.cache x)∧∀j,Un d j=false→Un d' j=false:=by
 have hk:=h.k1
 have hm:=h.hm
 have hn:=h.n2
 have hE1:=h.E1
 obtain⟨d1,e1,D1,o1,k1⟩:=h.dv.avC (a:=64+64*(1-k)) Y E
 obtain⟨d2,e2,L⟩:=D1.wr (a:=64+64*(1-k)) Y (ws:=KL (E+1) V) fun i _=>aeu (apV (E+1) V ⟨Y,Y⟩) i
 have o:∀x:Int,¬(((64+64*(1-k):Nat):Int)≤x∧x<((64+64*(1-k):Nat):Int)+16)→Nv.get d2.cache x=Nv.get d.cache x:=fun x hx=>by rw[L.o x Y,o1 x hx]
 have hcm:Nv.cm d m E k (KL (E+1) V)=(d2,0):=by
  unfold Nv.cm
  rw[if_neg Y,e1,if_pos rfl];exact e2
 have hnew:EL d2.cache (64+64*(1-k)) 16=KL (E+1) V:=YI _ _ _ (abm _ _) fun i hi=>by
  have:=L.i i hi
  rw[←this];congr 1
 have hold:EL d2.cache (64+64*k) 16=EL d.cache (64+64*k) 16:=Oj 16 fun x hx=>o _ Y
 obtain⟨y1,y2,y3⟩:=Qx (E+1) V Y hV
 refine⟨d2,hcm,⟨L.D,hm,hn,h.hid,(TV 8 fun x hx=>o _ Y).trans h.su,⟨h.hd.h0,fun b x hb hx=>?_⟩,h.hl,h.sm,?_,?_,?_,Y,Y,hV⟩,fun x hx=>o x Y,fun j hj=>L.k j (k1 j hj)⟩
 ·have:=h.hd.at_ b x hb hx
  exact⟨this.1,by rw[o _ Y];exact this.2⟩
 all_goals
  have ck:=h.ck
  have ce:=h.ce
  rcases hk with rfl|rfl
  ·obtain⟨a1,a2⟩:=ch0 (a:=EL d.cache 64 16) (b:=EL d.cache 128 16) (by rw[ck];rfl)
   have hd:dC (EL d.cache 64 16)=0:=by
    unfold U2 at ck
    split at ck
    ·rename_i h;exact h.1
    ·split at ck<;>cases ck
   have eA:EL d2.cache 64 16=EL d.cache 64 16:=hold
   have eB:EL d2.cache 128 16=KL (E+1) V:=hnew
   have hK:U2 (EL d.cache 64 16) (KL (E+1) V)=1:=by
    unfold U2
    rw[if_neg,if_pos y1]
    rintro⟨_,h2|h2⟩
    ·exact h2 y1
    ·rw[y2,←a1,ce]at h2;omega
   obtain⟨b1,b2⟩:=ch1 hK
   rw[eA,eB]
   first|rw[hK];rfl|rw[b1,y2]|rw[b2,y3]
  ·obtain⟨a1,a2⟩:=ch1 (a:=EL d.cache 64 16) (b:=EL d.cache 128 16) (by rw[ck];rfl)
   have eA:EL d2.cache 64 16=KL (E+1) V:=hnew
   have eB:EL d2.cache 128 16=EL d.cache 128 16:=hold
   have hK:U2 (KL (E+1) V) (EL d.cache 128 16)=0:=by
    unfold U2
    rw[if_pos ⟨y1,.inr (by rw[y2,←a1,ce];omega)⟩]
   obtain⟨b1,b2⟩:=ch0 hK
   rw[eA,eB]
   first|rw[hK];rfl|rw[b1,y2]|rw[b2,y3]
end
end
section
section
open Go.RowKit
theorem acK{P:Int→Bool}{pt:Int→List Int}:Tr.Good P pt zr8 (fun _=>False):=⟨fun r hr=> .inl (by simpa [zr8]using hr),fun a h=>h.elim⟩
structure abe (d:Nv.D) (m n:Nat) (id:Int) (h:Ko) (N:Nat):Prop where
 ok:Ia d m n id h N
 k:h.k=0
 E:h.E=1
 R:h.R=zr8
 V:h.V=zr8
 rg:h.rg=List.replicate 32 0
 us:∀a,Gz h.s.U a=false
 nn:N≤256*n
 cl:∀j,Un d j=false
 hs:h.s.hs=List.replicate n (0,0,0)
theorem anx(n:Nat)(id most:Int)(hn:2≤n∧n≤256)(hid:Zj id)(alk:0≤most)(w:World):
 Calls prog 7 [.agg [.int .i64 n,.int .u64 id,.int .i64 most].toArray].toArray w fun e w'=>∃(g:Geo) (d:Nv.D) (h:Ko) (N:Nat),Wi g (64*n)∧abe d (64*n) n id h N∧e= .returned (.tuple #[ptr h.pH,.int .i64 0])∧Heap w [] (h.L g d) w':=by
 have H:=Heap.nil w
 have hGR:=fun(W:World)=>aeD (n:Int) W Y
 rw[Su.FY n Y Y]at hGR
 have hGW:=fun(W:World)=>YD (n:Int) W Y
 have hNw:=fun(W:World)=>nNew ((n:Int)*512) W Y
 have e1:(((n:Int)*512).toNat+7)/8=64*n:=Y
 rw[e1]at hNw
 refine BM 29 func7 O (Aw (DU H O O fun p1 _ H=>EX O (nG ?_)))
 refine BR O arS (mQ ?_)
 refine AL (FP (XF _) O) (Ea H O acy fun p4 _ H=>Eh H 0 O O O O O O O G5 ?_)
 clear H;refine ayJ fun _ H=>?_
 refine Au (AP (Aw (qR ?_)))
 refine BI H O (hGR _) (apq O) fun W1 H=>gK ?_
 refine Aw (qR ?_)
 refine BI H O (hGW _) (akf O) fun W1 H=>s_call O (hNw _) (axk O) ?_
 rintro e W1 ⟨g,rfl,hg,H'⟩
 refine⟨_,rfl,?_⟩
 have H:=H.more (A:=[grp _]) (Hw H');clear H';simp only[Bv]at H
 refine EX O (Au (AP (AP ?_)))
 obtain⟨d0,hd0⟩:∃X,Nv.load (List.replicate (8*(64*n)) 0) (64*n)=X:=⟨_,rfl⟩
 have hD0:Dv d0 (64*n):=by
  rw[←hd0]
  exact Dv.load J fun x hx=>by rw[Jb hx];omega
 have hz0:∀x,Nv.get d0.cache x=0:=fun x=>by rw[←hd0];exact amk _ _ x
 have hc0:∀j,Un d0 j=false:=fun j=>by rw[←hd0];exact alF _ _ j
 rw[hd0]at H
 clear hd0 hNw
 have hF:=fun{W:World} hE=>ali (g:=g) (d:=d0) (m:=64*n) (n:=n) (w:=W) hE hD0 hg rfl hn id hid
 refine DR (BF O (BR O asM (BD H 2 O O O GR (s_call O (hF (H.Bl 0 O)) (awM O) ?_))))
 rintro e W1 ⟨d1,d2,d3,y1,y2,y3,rfl,H'⟩
 refine⟨_,rfl,?_⟩
 have H:=H.DN 0 rfl H';clear H';simp only[Bv]at H
 refine mW ?_
 refine AO (AP ?_)
 obtain⟨hk,hcl,hzz⟩:=Le.format rfl hn hid hz0 hc0 y1 y2 y3
 have hO:=fun{W:World} hE=>ana (g:=g) (d:=d3) (m:=64*n) (n:=n) (k:=0) (id:=id) (E:=1) (hs:=List.replicate n (0,0,0)) (R:=zr8) (w:=W) most alk hE hg hk acK
 refine DR (BF O (BR O arl (BD H 2 O O O GU (s_call O (hO (H.Bl 0 O)) (avn O) ?_))))
 rintro e W1 ⟨d4,L,h,N,hop,hok,q1,q2,q3,q4,q5,rfl,H'⟩
 refine⟨_,rfl,?_⟩
 have H:=(Heap.abN (H.DN 0 rfl H'));clear H'
 refine AL (CG (v:= .pointer _) O O) (DK O O (qZ ?_))
 have hL:L=[]:=Pv.2 fun a ha=>hop.live.le _ acK a ha
 have hhs:h.s.hs=List.replicate n (0,0,0):=by
  rw[hop.sh,hL]
  apply FU (by rw[RU])
  intro b b1 b2
  have hbl:b<(List.replicate n ((0,0,0):Ob.H3)).length:=by simpa using b2
  have:=XP ([]:List Int) hbl
  rw[Ar b1]at this
  injection this with this
  rw[this,if_neg J];simp
 exact⟨g,d4,h,N,hg,⟨hok,q1,q2,q3,q4,q5,fun a=>by rw[hop.us,hL];exact decide_eq_false J,hop.nn,fun j=>hop.k j (hcl j),hhs⟩,rfl,H.drops⟩
end
end
section
section
open Go.RowKit
theorem Heap.IQ{w0 W:World}{F:List Nat}{L:List Fp}{g:Geo}{d:Nv.D}{s:JZ}(H:Heap w0 F L W)(k:Nat)(hk:L[k]? =some (grp (alE g d s))):DW (Dz g d) W:=
 (Heap.start (H.Bl k hk)).Bl 0 rfl
theorem Heap.KP{w0 W:World}{F:List Nat}{L:List Fp}{g:Geo}{d:Nv.D}{s:JZ}(H:Heap w0 F L W)(k:Nat)(hk:L[k]? =some (grp (alE g d s))):DW (s.L g) W:=
 (Heap.start (H.Bl k hk)).drop.ents
theorem Heap.aeC{w0 W W':World}{F:List Nat}{L:List Fp}{g:Geo}{d d':Nv.D}{s:JZ}(H:Heap w0 F L W)(k:Nat)(hk:L[k]? =some (grp (alE g d s)))(H':Heap W (ids (Dz g d)) (Dz g d') W'):Heap w0 F (L.set k (grp (alE g d' s))) W':=
 H.DN k hk ((Heap.start (H.Bl k hk)).DN 0 rfl H')
theorem ab9{p pA t:Nat}{R:List Int}{Qb pC Qd:Nat}(h:R.length=32):(hpC p pA t R Qb pC Qd)[35]? =some (ptr Qb)∧(hpC p pA t R Qb pC Qd)[36]? =some (ptr pC)∧(hpC p pA t R Qb pC Qd)[37]? =some (pt Qd)∧(hpC p pA t R Qb pC Qd)[38]? =some (.bool false):=
 ⟨ZX h 0,ZX h 1,ZX h 2,ZX h 3⟩
section
variable{g:Geo}{d:Nv.D}{m n N:Nat}{id:Int}{h:Ko}{w:World}
theorem amz(hE:DW (h.L g d) w):Calls prog 11 [ptr h.pH].toArray w fun e w'=>e= .returned (ptr g.p)∧Only [] w w':=by
 have HR:=Heap.start hE
 have H:=Heap.nil w
 unfold Ko.L Ko.C hpC at HR
 refine BM 7 func11 O (Aw (EX O (uX ?_)))
 refine BR O Wq (BD (HR.same H.only) 0 O O O Kt (uq ?_))
 exact⟨rfl,H.only⟩
theorem ain(hE:DW (h.L g d) w):Calls prog 28 [ptr h.pH].toArray w fun e w'=>e= .returned (ptr h.s.pA)∧Only [] w w':=by
 have HR:=Heap.start hE
 have H:=Heap.nil w
 unfold Ko.L Ko.C hpC at HR
 refine BM 7 func28 O (Aw (EX O (uX ?_)))
 refine BR O Z9 (BD (HR.same H.only) 0 O O O Om (uq ?_))
 exact⟨rfl,H.only⟩
theorem hpAt(hE:DW (h.L g d) w)(h32:h.rg.length=32)(r:Nat)(hr:r<8)(v:Int)(hv:h.rg.getD r 0=v):Calls prog 106 [ptr h.pH,.agg [.int .i64 (0:Nat),.int .i64 r].toArray].toArray w fun e w'=>e= .returned (.tuple #[.int .i64 v,.int .i64 0])∧Only [] w w':=by
 subst hv
 have HR:=Heap.start hE
 have H:=Heap.nil w
 have hG:=fun{W:World} hE=>agb (w:=W) (b:=h.pH) (p:=g.p) (pA:=h.s.pA) (t:=h.t) (Qb:=h.hP) (pC:=h.pC) (Qd:=h.sP) (R:=h.rg) hE h32 0 r Y hr
 simp only[KH,DT]at hG
 unfold Ko.L Ko.C at HR
 generalize h.rg.getD r 0=v at*
 refine BM 13 func106 O (Aw (DU H O O fun p3 _ H=>AQ O (qw ?_)))
 refine Gu mixed ?_;replace H:=H.drew
 refine lD ?_
 refine BI H O (hG ((HR.same H.only).one 0 O)) (afe O) fun W1 H=>aj ?_
 refine lN ?_
 refine CJ (AO (BH (dn ?_)))
 exact⟨rfl,H.only⟩
theorem ahb(hE:DW (h.L g d) w)(h32:h.rg.length=32)(r:Nat)(hr:r<8)(h0:h.rg.getD r 0≠0):Calls prog 142 [ptr h.pH,.agg [.int .i64 (0:Nat),.int .i64 r].toArray].toArray w fun e w'=>e= .returned (.tuple #[.int .i64 (h.rg.getD r 0),.int .i64 0])∧Only [] w w':=by
 have HR:=Heap.start hE
 have H:=Heap.nil w
 have hG:=fun{W:World} hE=>arv (w:=W) (b:=h.pH) (p:=g.p) (pA:=h.s.pA) (t:=h.t) (Qb:=h.hP) (pC:=h.pC) (Qd:=h.sP) (R:=h.rg) hE h32 0 r Y hr (by simpa using h0)
 simp only[KH,DT]at hG
 obtain⟨q35,q36,q37,q38⟩:=ab9 (p:=g.p) (pA:=h.s.pA) (t:=h.t) (Qb:=h.hP) (pC:=h.pC) (Qd:=h.sP) h32
 unfold Ko.L Ko.C at HR
 generalize h.rg.getD r 0=v at*
 refine BM 17 func142 O (Aw (DU H O O fun p3 _ H=>AQ O (qw ?_)))
 refine eY ?_
 refine BR O UA (BD (HR.same H.only) 0 O O q38 ag4 (dX ?_))
 refine AP ?_
 refine Gu mixed ?_;replace H:=H.drew
 refine lD ?_
 refine BI H O (hG ((HR.same H.only).one 0 O)) (auh O) fun W1 H=>aj ?_
 refine lN ?_
 refine CJ (AO (BH (dn ?_)))
 exact⟨rfl,H.only⟩
theorem agG(hE:DW (h.L g d) w):Calls prog 83 [ptr h.pH,.int .i64 0].toArray w fun e w'=>e= .returned (.int .i64 0)∧Only [] w w':=by
 have H:=Heap.nil w
 refine BM 11 func83 O (Aw (jk ?_))
 refine mD ?_
 refine Aw (Az O (fH ?_))
 exact⟨rfl,H.only⟩
theorem agw(hE:DW (h.L g d) w)(h32:h.rg.length=32)(r:Nat)(hr:r<8):Calls prog 40 [ptr h.pH,.agg [.int .i64 (0:Nat),.int .i64 r].toArray].toArray w fun e w'=>e= .returned (.int .i64 0)∧Heap w (ids (h.L g d)) (Ko.L g d {h with rg:=h.rg.set r 0}) w':=by
 have H:=Heap.start hE
 have hG:=fun{W:World} hE=>ai9 (w:=W) (b:=h.pH) (p:=g.p) (pA:=h.s.pA) (t:=h.t) (Qb:=h.hP) (pC:=h.pC) (Qd:=h.sP) (R:=h.rg) hE h32 0 r Y hr 0 Y
 simp only[KH,DT]at hG
 obtain⟨q35,q36,q37,q38⟩:=ab9 (p:=g.p) (pA:=h.s.pA) (t:=h.t) (Qb:=h.hP) (pC:=h.pC) (Qd:=h.sP) h32
 generalize ids (h.L g d)=I at*
 unfold Ko.L Ko.C at H⊢
 refine BM 14 func40 O (Aw (DU H O O fun p3 _ H=>qw ?_))
 refine eY ?_
 refine BR O UA (BD H 1 O O q38 ag4 (dX ?_))
 refine AP ?_
 refine Gu mixed ?_;replace H:=H.drew
 refine lD ?_
 refine s_call O (hG (H.one 1 O)) (apn O) ?_
 rintro e W1 ⟨rfl,H'⟩
 refine⟨_,rfl,?_⟩
 have H:=H.at 1 rfl H' (fun i hi=>hi);clear H';simp only[Bv]at H
 refine aj ?_
 refine Eo 5 O O O (fun _ hS=>DJ (v:= .int _ _) O) trivial (CJ (AO (BH (aQ ?_))))
 exact⟨rfl,H.drop⟩
theorem arY(hE:DW (h.L g d) w)(h32:h.rg.length=32)(r q:Nat)(hr:r<8)(hq:q<8)(v:Int)(hv:h.rg.getD q 0=v)(h0:0≤v):Calls prog 107 [ptr h.pH,.agg [.int .i64 (0:Nat),.int .i64 r].toArray,.agg [.int .i64 (0:Nat),.int .i64 q].toArray].toArray w fun e w'=>e= .returned (.int .i64 0)∧Heap w (ids (h.L g d)) (Ko.L g d {h with rg:=h.rg.set r v}) w':=by
 subst hv
 have H:=Heap.start hE
 have hGt:=fun{W:World} hE=>agb (w:=W) (b:=h.pH) (p:=g.p) (pA:=h.s.pA) (t:=h.t) (Qb:=h.hP) (pC:=h.pC) (Qd:=h.sP) (R:=h.rg) hE h32 0 q Y hq
 have hG:=fun{W:World} hE=>ai9 (w:=W) (b:=h.pH) (p:=g.p) (pA:=h.s.pA) (t:=h.t) (Qb:=h.hP) (pC:=h.pC) (Qd:=h.sP) (R:=h.rg) hE h32 0 r Y hr _ h0
 simp only[KH,DT]at hG hGt
 obtain⟨q35,q36,q37,q38⟩:=ab9 (p:=g.p) (pA:=h.s.pA) (t:=h.t) (Qb:=h.hP) (pC:=h.pC) (Qd:=h.sP) h32
 generalize ids (h.L g d)=I at*
 unfold Ko.L Ko.C at H⊢
 generalize h.rg.getD q 0=v at*
 refine BM 32 func107 O (Aw (DU H O O fun p4 _ H=>DU H O O fun p5 _ H=>qw ?_))
 refine Jj (fun f W=>f 0=ptr h.pH∧f 4=ptr p4∧f 7= .int .i64 v∧f 8= .int .i64 0∧Heap w I [blk p4 [.int .i64 (0:Nat),.int .i64 r] 72,blk h.pH (hpC g.p h.s.pA h.t h.rg h.hP h.pC h.sP) 111,grp (alE g d h.s),blk h.t (MP g.p h.E h.R h.k h.V) 220,grp (hdE h.s.pA h.hP h.hS h.hB h.hA h.hC h.hL),blk h.pC (cyC h.s.pA h.pK h.pW h.fv 0 0 0) 199,grp (JJ h.sP h.sB h.sA h.sC h.sL),grp h.cr] W) ?_ ?_
 ·refine Gu mixed ?_;replace H:=H.drew
  refine lZ ?_
  refine BI H O (hGt (H.one 2 O)) (afe O) fun W1 H=>aj ?_
  refine dL ?_
  refine CJ (Dt ?_)
  exact⟨rfl,rfl,rfl,rfl,H.drop⟩
 clear H
 rintro f W ⟨f0,f4,f7,f8,H⟩
 obtain⟨f,rfl⟩:=Ih f0 f4 f7 f8
 clear f0 f4 f7 f8
 refine AO (AP (vT ?_))
 refine Az O (AL (Dc O O Y) (uQ ?_))
 refine AP ?_
 refine Gu mixed ?_;replace H:=H.drew
 refine uJ ?_
 rintro e W1 ⟨rfl,H'⟩
 refine⟨_,rfl,?_⟩
 have H:=H.at 1 rfl H' (fun i hi=>hi);clear H';simp only[Bv]at H
 refine aj ?_
 refine oH ?_
 exact⟨rfl,H.drop⟩
theorem ahU(hE:DW (h.L g d) w)(hO:Ia d m n id h N)(r:Nat)(hr:r<8)(a:Int)(ha:Gz h.s.U a=true):Calls prog 104 [ptr h.pH,.agg [.int .i64 (0:Nat),.int .i64 r].toArray,.int .i64 a].toArray w fun e w'=>e= .returned (.int .i64 0)∧Heap w (ids (h.L g d)) (Ko.L g d {h with rg:=h.rg.set r a}) w':=by
 have H:=Heap.start hE
 have h32:=hO.r32
 have h0:0≤a:=(Za ha).1
 have hRi:=fun W=>aai 0 r W Y hr
 have hUs:=fun{W:World} hE=>ahx (g:=g) (s:=h.s) (w:=W) hE hO.al.su a
 rw[ha]at hUs
 have hG:=fun{W:World} hE=>ai9 (w:=W) (b:=h.pH) (p:=g.p) (pA:=h.s.pA) (t:=h.t) (Qb:=h.hP) (pC:=h.pC) (Qd:=h.sP) (R:=h.rg) hE h32 0 r Y hr _ h0
 simp only[KH,DT]at hG
 obtain⟨q35,q36,q37,q38⟩:=ab9 (p:=g.p) (pA:=h.s.pA) (t:=h.t) (Qb:=h.hP) (pC:=h.pC) (Qd:=h.sP) h32
 generalize ids (h.L g d)=I at*
 unfold Ko.L Ko.C at H⊢
 refine BM 36 func104 O (Aw (DU H O O fun p4 _ H=>qw ?_))
 refine vT ?_
 refine Dn H 0 O O O UC SN (BI H O (hRi _) (aos O) fun W1 H=>AL (EM O) (BN O (Au (DX O (eY ?_)))))
 refine BR O Z9 (BD H 1 O O O Om (Az O (BI H O (hUs (H.KP 2 O)) (aaI O) fun W1 H=>AL (EM O) (uQ ?_))))
 refine eY ?_
 refine BR O aay (BD H 1 O O q36 anC (Az O (BI H O ((aeT (H.one 5 O) a)) (ap5 O) fun W1 H=>Au (AP ?_))))
 refine Gu mixed ?_;replace H:=H.drew
 refine uJ ?_
 rintro e W1 ⟨rfl,H'⟩
 refine⟨_,rfl,?_⟩
 have H:=H.at 1 rfl H' (fun i hi=>hi);clear H';simp only[Bv]at H
 refine aj ?_
 refine oH ?_
 exact⟨rfl,H.drop⟩
end
end
end
section
section
open Go.RowKit
section
variable{g:Geo}{d:Nv.D}{m n N:Nat}{id:Int}{h:Ko}{w:World}
def alS(s:JZ)(hs':List Ob.H3)(S' E':IL)(F':Nat→FQ)(MR:FrM)(a:Nat):JZ:={s with hs:=hs',S:=S',E:=E',F:=F',FL:=MR,U:=Bm.put s.U a true}
theorem aij(hE:DW (h.L g d) w)(hO:Ia d m n id h N)(hg:Wi g m)(hN:N≤80000)(r:Nat)(hr:r<8)(p q:Int)(z k:Nat)(hp:0≤p∧p≤63)(hq:0≤q∧q≤16384)(hz:(z:Int)=1+p+q)(hb:Cl.ofB z=true)(hk:Cl.WQ z=k)(hroom:lk h.s.F k≠0∨∃b:Nat,UR h.s.hs h.s.n b):
 Calls prog 27 [ptr h.pH,.agg [.int .i64 (0:Nat),.int .i64 r].toArray,.int .i64 p,.int .i64 q].toArray w fun e w'=>∃d' hs' S' E' F' MR a,UG m h.s N p q z k d d' hs' S' E' F' MR a∧e= .returned (.int .i64 0)∧Heap w (ids (h.L g d)) (Ko.L g d' {h with s:=alS h.s hs' S' E' F' MR a,rg:=h.rg.set r (a:Nat),sL:=Bm.put h.sL (a:Nat) false}) w':=by
 have H:=Heap.start hE
 have h32:=hO.r32
 have hm:=hO.dev.hm
 have hn:=hO.dev.n2
 have hRi:=fun W=>aai 0 r W Y hr
 have hAl:=fun{W:World} hE=>aoi g d m h.s N p q z k W hE hO.dev.dv hg Y hO.al hN hp hq hz hb hk hroom
 obtain⟨q35,q36,q37,q38⟩:=ab9 (p:=g.p) (pA:=h.s.pA) (t:=h.t) (Qb:=h.hP) (pC:=h.pC) (Qd:=h.sP) h32
 generalize ids (h.L g d)=I at*
 unfold Ko.L Ko.C at H
 refine BM 55 func27 O (Aw (DU H O O fun p5 _ H=>qw ?_))
 refine vT ?_
 refine Dn H 0 O O O UC SN (BI H O (hRi _) (aos O) fun W1 H=>AL (EM O) (uQ ?_))
 refine AP ?_
 refine Jj (fun f W=>∃d' hs' S' E' F' MR a,UG m h.s N p q z k d d' hs' S' E' F' MR a∧f 0=ptr h.pH∧f 5=ptr p5∧f 9= .int .i64 (a:Nat)∧f 10= .int .i64 0∧Heap w I [blk p5 [.int .i64 (0:Nat),.int .i64 r] 72,blk h.pH (hpC g.p h.s.pA h.t h.rg h.hP h.pC h.sP) 111,grp (alE g d' (alS h.s hs' S' E' F' MR a)),blk h.t (MP g.p h.E h.R h.k h.V) 220,grp (hdE h.s.pA h.hP h.hS h.hB h.hA h.hC h.hL),blk h.pC (cyC h.s.pA h.pK h.pW h.fv 0 0 0) 199,grp (JJ h.sP h.sB h.sA h.sC h.sL),grp h.cr] W) ?_ ?_
 ·refine Gu mixed ?_;replace H:=H.drew
  refine bI ?_
  refine Dj 2 O O O (fun _ hS=>CB O Z9) trivial (Dj 4 O O O (fun _ hS=>CB O abH) trivial (lT ?_))
  refine Dj 7 O O O (fun _ hS=>BP (v:= .int _ _) O) trivial ?_
  refine D6 3 5 ?_ ?_
  ·refine BO O (BD H 1 O O O Om (iE ?_))
   refine mQ ?_
   refine aj ?_
   refine Bd 8 O (s_call O (hAl (H.Bl 2 O)) (awf O) ?_)
   rintro e W1 ⟨d',hs',S',E',F',MR,a,hP,rfl,H'⟩
   refine⟨_,rfl,?_⟩
   have H:=H.DN 2 rfl H';clear H';simp only[Bv]at H
   refine aj ?_
   refine iH ?_
   exact⟨d',hs',S',E',F',MR,a,hP,rfl,rfl,rfl,rfl,H⟩
  ·refine BO O (mQ ?_)
   refine qx ?_
   refine BD H 1 O O O Om (aj ?_)
   refine Bd 8 O (s_call O (hAl (H.Bl 2 O)) (awf O) ?_)
   rintro e W1 ⟨d',hs',S',E',F',MR,a,hP,rfl,H'⟩
   refine⟨_,rfl,?_⟩
   have H:=H.DN 2 rfl H';clear H';simp only[Bv]at H
   refine aj ?_
   refine iH ?_
   exact⟨d',hs',S',E',F',MR,a,hP,rfl,rfl,rfl,rfl,H⟩
 clear H
 rintro f W ⟨d',hs',S',E',F',MR,a,hP,f0,f5,f9,f10,H⟩
 obtain⟨f,rfl⟩:=Ih f0 f5 f9 f10
 clear f0 f5 f9 f10
 have hDr:=fun{W:World} hE=>au' (p:=h.sP) hO.ss W hE (a:Nat)
 have hG:=fun{W:World} hE=>ai9 (w:=W) (b:=h.pH) (p:=g.p) (pA:=h.s.pA) (t:=h.t) (Qb:=h.hP) (pC:=h.pC) (Qd:=h.sP) (R:=h.rg) hE h32 0 r Y hr (a:Nat) Y
 simp only[KH,DT]at hG
 refine AO (gy ?_)
 refine eY ?_
 refine BR O aay (BD H 1 O O q36 anC (Az O (BI H O ((asj (H.one 5 O) (a:Nat))) (axp O) fun W1 H=>uX ?_)))
 refine BR O aez (BD H 1 O O q37 PN (Az O (s_call O (hDr (H.Bl 6 O)) (ayp O) ?_)))
 rintro e W1 ⟨rfl,H'⟩
 refine⟨_,rfl,?_⟩
 have H:=H.DN 6 rfl H';clear H';simp only[Bv]at H
 refine Au (AP ?_)
 refine Gu mixed ?_;replace H:=H.drew
 refine uJ ?_
 rintro e W1 ⟨rfl,H'⟩
 refine⟨_,rfl,?_⟩
 have H:=H.at 1 rfl H' (fun i hi=>hi);clear H';simp only[Bv]at H
 refine aj ?_
 refine oH ?_
 exact⟨d',hs',S',E',F',MR,a,hP,rfl,H.drop⟩
theorem air(hE:DW (h.L g d) w)(hO:Ia d m n id h N)(a:Int):Calls prog 110 [ptr h.pH,.int .i64 a].toArray w fun e w'=>∃ZN,Ib h.sB h.sA h.sC ZN∧e= .returned (.tuple #[])∧Heap w (ids (h.L g d)) (Ko.L g d {h with sL:=ZN}) w':=by
 have H:=Heap.start hE
 have h32:=hO.r32
 obtain⟨q35,q36,q37,q38⟩:=ab9 (p:=g.p) (pA:=h.s.pA) (t:=h.t) (Qb:=h.hP) (pC:=h.pC) (Qd:=h.sP) h32
 have hAd:=fun{W:World} hE=>anR (p:=h.sP) hO.ss W hE a
 have hss:=hO.ss
 generalize ids (h.L g d)=I at*
 unfold Ko.L Ko.C at H⊢
 by_cases h0:a=0
 ·refine BM 18 func110 O (aT ?_)
  refine fin0 O ?_
  exact⟨h.sL,hss,rfl,H⟩
 ·refine BM 18 func110 O (Aw (Az O (AL (Hl O O Y) (Au (EI O (eY ?_))))))
  refine BR O aez (BD H 0 O O q37 PN (Az O (s_call O (hAd (H.Bl 5 O)) (ajf O) ?_)))
  rintro e W1 ⟨rfl,H'⟩
  refine⟨_,rfl,?_⟩
  have H:=H.DN 5 rfl H';clear H';simp only[Bv]at H
  refine Au (sN ?_)
  refine BR O aay (BD H 0 O O q36 anC (Az O (BI H O ((aeT (H.one 4 O) a)) (ap5 O) fun W1 H=>AA (fin0 O ?_))))
  exact⟨_,hss.put' _ _,rfl,H⟩
theorem ajw(hE:DW (h.L g d) w)(hO:Ia d m n id h N)(r:Nat)(hr:r<8)(i v a:Int)(hra:h.rg.getD r 0=a)(ha:Gz h.s.U a=true)(hi:0≤i∧i<Ob.hq d.cache a)(hv:0≤v∧v≤18446744073709551615):Calls prog 73 [ptr h.pH,.agg [.int .i64 (0:Nat),.int .i64 r].toArray,.int .i64 i,.int .u64 v].toArray w fun e w'=>∃d',Sto d d' m (a+(1+Ob.hp d.cache a+i)).toNat v∧e= .returned (.int .i64 0)∧Heap w (ids (h.L g d)) (h.L g d') w':=by
 subst hra
 have H:=Heap.start hE
 have h32:=hO.r32
 have hm:=hO.dev.hm
 have hn:=hO.dev.n2
 obtain⟨_,_,_,hhd,avz,_,_,_⟩:=hO.al.obj hO.dev.dv.U ha
 have hNd:=fun{W:World} hE=>ahb (g:=g) (d:=d) (h:=h) (w:=W) hE h32 r hr Y
 have hDn:=fun{d:Nv.D} {W:World} hE=>agG (g:=g) (d:=d) (h:=h) (w:=W) hE
 have hSt:=fun{W:World} hE=>akh (g:=g) (d:=d) (m:=m) (w:=W) hE hO.dev.dv Y (h.rg.getD r 0) i v hhd hi hv
 generalize ids (h.L g d)=I at*
 generalize h.rg.getD r 0=a at*
 refine BM 30 func73 O (Aw (DU H O O fun p5 _ H=>nV ?_))
 refine Dn H 0 O O O UC SN (BI H O (hNd H.drop.ents) (amX O) fun W1 H=>wQ ?_)
 refine Aw (BF O (BF O (Dl O (BR O Wq (BD H 1 O O O Kt (Az O (Az O (Az O (s_call O (hSt (H.IQ 2 O)) (awG O) ?_)))))))))
 rintro e W1 ⟨d',hs,rfl,H'⟩
 refine⟨_,rfl,?_⟩
 have H:=H.aeC 2 rfl H';clear H';simp only[Ko.L,AZ,AY]at H
 refine BI H O (hDn H.drop.ents) (aoo O) fun W1 H=>fH ?_
 exact⟨d',hs,rfl,H.drop⟩
theorem aku(hE:DW (h.L g d) w)(hO:Ia d m n id h N)(hg:Wi g m)(r:Nat)(hr:r<8)(a:Int)(hra:h.rg.getD r 0=a)(ha:Gz h.s.U a=true):Calls prog 74 [ptr h.pH,.agg [.int .i64 (0:Nat),.int .i64 r].toArray].toArray w fun e w'=>∃d',Per d d' m a.toNat (1+Ob.hp d.cache a+Ob.hq d.cache a).toNat∧e= .returned (.int .i64 0)∧Heap w (ids (h.L g d)) (h.L g d') w':=by
 subst hra
 have H:=Heap.start hE
 have h32:=hO.r32
 have hm:=hO.dev.hm
 have hn:=hO.dev.n2
 obtain⟨_,_,_,hhd,avz,_,_,_⟩:=hO.al.obj hO.dev.dv.U ha
 have hNd:=fun{W:World} hE=>ahb (g:=g) (d:=d) (h:=h) (w:=W) hE h32 r hr Y
 have hDn:=fun{d:Nv.D} {W:World} hE=>agG (g:=g) (d:=d) (h:=h) (w:=W) hE
 have hSt:=fun{W:World} hE=>aj6 (g:=g) (d:=d) (m:=m) (w:=W) hE hO.dev.dv hg Y (h.rg.getD r 0) hhd
 generalize ids (h.L g d)=I at*
 generalize h.rg.getD r 0=a at*
 refine BM 24 func74 O (Aw (DU H O O fun p3 _ H=>nV ?_))
 refine Dn H 0 O O O UC SN (BI H O (hNd H.drop.ents) (amX O) fun W1 H=>wQ ?_)
 refine Aw (BF O (BF O (Dl O (BR O Wq (BD H 1 O O O Kt (Az O (s_call O (hSt (H.IQ 2 O)) (auG O) ?_)))))))
 rintro e W1 ⟨d',hs,rfl,H'⟩
 refine⟨_,rfl,?_⟩
 have H:=H.aeC 2 rfl H';clear H';simp only[Ko.L,AZ,AY]at H
 refine BI H O (hDn H.drop.ents) (aoo O) fun W1 H=>fH ?_
 exact⟨d',hs,rfl,H.drop⟩
end
end
end
section
section
open Go.RowKit
theorem Heap.table{w0 W:World}{F:List Nat}{L:List Fp}{g:Geo}{d:Nv.D}{s:JZ}{b:Nat}{c:List Value}{T:TypeId}(H:Heap w0 F (grp (alE g d s)::blk b c T::L) W):Heap w0 F ([blk b c T,grp (Dz g d)]++(s.L g++L)) W:=
 H.abN.perm (O9 (l₁:=grp (Dz g d)::s.L g) (a:=blk b c T) (l₂:=L))
theorem Heap.ahK{w0 W:World}{F:List Nat}{L:List Fp}{g:Geo}{d:Nv.D}{s:JZ}{b:Nat}{c:List Value}{T:TypeId}(H:Heap w0 F ([blk b c T,grp (Dz g d)]++(s.L g++L)) W):Heap w0 F (grp (alE g d s)::blk b c T::L) W:=
 Heap.agS (A:=alE g d s) (L:=blk b c T::L) (H.perm (O9 (l₁:=grp (Dz g d)::s.L g) (a:=blk b c T) (l₂:=L)).symm)
theorem Heap.apart{w0 W:World}{F:List Nat}{L:List Fp}{E X:Fp}(H:Heap w0 F (E::L) W)(j:Nat)(hj:L[j]? =some X):∀i∈E.ids,i∉X.ids:=fun i hi hx=>by
 have hnd:=H.nd
 rw[EW]at hnd
 exact(CS.1 hnd).2.2 i hi i (KG.2 ⟨X,A8 hj,hx⟩) rfl
section
variable{g:Geo}{d:Nv.D}{m n N:Nat}{id:Int}{h:Ko}{w:World}
theorem akJ(hE:DW (h.L g d) w)(hR:h.R.length=8)(hV:h.V.length=8):Calls prog 127 [ptr h.pH].toArray w fun e w'=>e= .returned (.agg (h.V.map (Value.int .i64)).toArray)∧Only [] w w':=by
 have HR:=Heap.start hE
 have H:=Heap.nil w
 have hWk:=fun{W:World} hE=>af' h.t g.p h.E h.k h.R h.V W hE hR hV
 unfold Ko.L Ko.C at HR
 obtain⟨v0,v1,v2,v3,v4,v5,v6,v7,hV8⟩:=O3 hV
 have hVm:(h.V.map (Value.int .i64))=[.int .i64 v0,.int .i64 v1,.int .i64 v2,.int .i64 v3,.int .i64 v4,.int .i64 v5,.int .i64 v6,.int .i64 v7]:=by rw[hV8];rfl
 rw[hVm]at hWk⊢
 refine BM 8 func127 O (Aw (Ea H O Vg fun p2 _ H=>uX ?_))
 refine BR O Yh (BD (HR.same H.only) 0 O O O acU (BI H O (hWk ((HR.same H.only).one 2 O)) (au6 O) fun W1 H=>wu ?_))
 clear H;refine ayJ fun _ H=>?_
 refine Au (BH (ZP O (IG H 0 O O O KU IC) ?_))
 exact⟨rfl,H.only⟩
theorem ajy(hE:DW (h.L g d) w)(hO:Ia d m n id h N)(r a:Nat)(hr:r<8)(ha:a<8)(v:Int)(hrv:h.rg.getD r 0=v)(hv:0≤v∧v<131072):Calls prog 38 [ptr h.pH,.int .i64 a,.agg [.int .i64 (0:Nat),.int .i64 r].toArray].toArray w fun e w'=>∃ZN,Ib h.sB h.sA h.sC ZN∧e= .returned (.int .i64 0)∧Heap w (ids (h.L g d)) (Ko.L g d {h with V:=h.V.set a v,sL:=ZN}) w':=by
 subst hrv
 have H:=Heap.start hE
 have h32:=hO.r32
 have hR8:=hO.dev.R8.1
 have hV8:=hO.V8.1
 have hGt:=fun{W:World} hE=>agb (w:=W) (b:=h.pH) (p:=g.p) (pA:=h.s.pA) (t:=h.t) (Qb:=h.hP) (pC:=h.pC) (Qd:=h.sP) (R:=h.rg) hE h32 0 r Y hr
 simp only[KH,DT]at hGt
 obtain⟨q35,q36,q37,q38⟩:=ab9 (p:=g.p) (pA:=h.s.pA) (t:=h.t) (Qb:=h.hP) (pC:=h.pC) (Qd:=h.sP) h32
 generalize ids (h.L g d)=I at*
 generalize h.rg.getD r 0=v at*
 have hSt:=fun{W:World} hE=>axm h.t g.p h.E h.k h.R h.V a v W hE hR8 hV8
 rw[if_pos ⟨Y,Y,hv.1,hv.2⟩,if_pos ⟨Y,Y,hv.1,hv.2⟩,Bz]at hSt
 have hSh:=fun{V:List Int} {W:World} hE (hO:Ia d m n id {h with V:=V} N)=>air (g:=g) (d:=d) (h:={h with V:=V}) (w:=W) hE hO v
 have hO2:Ia d m n id {h with V:=h.V.set a v} N:=⟨hO.dev,hO.al,hO.sn,⟨by rw[He];exact hV8,fun x hx=>by
  rcases E5 hx with h1|rfl
  ·exact hO.V8.2 x h1
  ·omega⟩,hO.r32,hO.hs,hO.hl,hO.ss⟩
 unfold Ko.L Ko.C at H
 refine BM 40 func38 O (Aw (DU H O O fun p5 _ H=>qw ?_))
 refine Jj (fun f W=>f 0=ptr h.pH∧f 1= .int .i64 a∧f 7= .int .i64 v∧f 8= .int .i64 0∧Heap w I [blk h.pH (hpC g.p h.s.pA h.t h.rg h.hP h.pC h.sP) 111,grp (alE g d h.s),blk h.t (MP g.p h.E h.R h.k h.V) 220,grp (hdE h.s.pA h.hP h.hS h.hB h.hA h.hC h.hL),blk h.pC (cyC h.s.pA h.pK h.pW h.fv 0 0 0) 199,grp (JJ h.sP h.sB h.sA h.sC h.sL),grp h.cr] W) ?_ ?_
 ·refine Gu mixed ?_;replace H:=H.drew
  refine lZ ?_
  refine BI H O (hGt (H.one 1 O)) (afe O) fun W1 H=>aj ?_
  refine dL ?_
  refine CJ (Dt ?_)
  exact⟨rfl,rfl,rfl,rfl,H.drop⟩
 clear H
 rintro f W ⟨f0,f1,f7,f8,H⟩
 obtain⟨f,rfl⟩:=Ih f0 f1 f7 f8
 clear f0 f1 f7 f8
 refine AO (AP (E8 (eY ?_)))
 refine BR O UA (BD H 0 O O q38 ag4 (BN O (Au (DX O (Aw (Az O (AL (Dc O O Y) (uQ ?_))))))))
 refine AP (eY ?_)
 refine BR O Yh (BD H 0 O O O acU (Az O (Az O (s_call O (hSt (H.one 2 O)) (auB O) ?_))))
 rintro e W1 ⟨rfl,H'⟩
 refine⟨_,rfl,?_⟩
 have H:=H.at 2 rfl H' (fun i hi=>hi);clear H';simp only[Bv]at H
 refine mW ?_
 refine AO (jl ?_)
 refine s_call O ((hSh (V:=h.V.set a v) H.ents hO2)) (aqF O) ?_
 rintro e W1 ⟨ZN,hss,rfl,H'⟩
 refine⟨_,rfl,?_⟩
 have H:=H.whole H';clear H'
 refine xX ?_
 exact⟨ZN,hss,rfl,H⟩
theorem ama(hE:DW (h.L g d) w)(hO:Ia d m n id h N)(hg:Wi g m)(hE9:h.E≤999):Calls prog 42 [ptr h.pH].toArray w fun e w'=>∃d' l',Nv.cm d m h.E h.k (KL (h.E+1) h.V)=(d',0)∧l'.length=h.hL.length∧e= .returned (.int .i64 0)∧Heap w (ids (h.L g d)) (Ko.L g d' {h with E:=h.E+1,R:=h.V,k:=1-h.k,hL:=l'}) w':=by
 have H:=Heap.start hE
 have h32:=hO.r32
 have hR8:=hO.dev.R8.1
 have hV8:=hO.V8.1
 have hm:=hO.dev.hm
 have hn:=hO.dev.n2
 have hE1:=hO.dev.E1
 obtain⟨q35,q36,q37,q38⟩:=ab9 (p:=g.p) (pA:=h.s.pA) (t:=h.t) (Qb:=h.hP) (pC:=h.pC) (Qd:=h.sP) h32
 obtain⟨d',ed,hdv,acf,hcl⟩:=hO.dev.commit hO.V8 hE9
 have hCm:=fun{W:World} hE=>apr h.t g d m h.k h.E h.R h.V W hE hO.dev.dv.I hg Y hO.dev.k1 ⟨Y,Y⟩ hR8 hV8 hO.V8.i64
 rw[ed]at hCm
 simp only[if_true]at hCm
 have hLa:=fun{W:World} hE=>aby h.t g.p (h.E+1) ((1-h.k:Nat):Int) h.V h.V W hE hV8 hV8
 obtain⟨v0,v1,v2,v3,v4,v5,v6,v7,hVv⟩:=O3 hV8
 have hVm:(h.V.map (Value.int .i64))=[.int .i64 v0,.int .i64 v1,.int .i64 v2,.int .i64 v3,.int .i64 v4,.int .i64 v5,.int .i64 v6,.int .i64 v7]:=by rw[hVv];rfl
 rw[hVm]at hLa
 have hal':I8 d'.cache h.s N fun _=>False:=hO.al.words (by rw[hdv.dv.len,hO.dev.dv.len]) (fun x h1 h2=>acf x Y) fun a ha=>acf a (by have:=(hO.al.obj hO.dev.dv.U ha).choose_spec;omega)
 have hh:∀a,Gz h.s.U a=true→Ob.hd d'.cache a=true:=fun a ha=>(Ob.L8 (hal'.us a ha)).2.2
 have hVb:∀x∈h.V,RI x:=fun x hx=>by
  have:=hO.V8.i64 x hx
  exact this
 have hRs:=fun{W:World} (LA:Option Addr) hE hQ=>aea (g:=g) (d:=d') (s:=h.s) (w:=W) (pH:=h.hP) (pS:=h.hS) (b:=h.hB) (A:=h.hA) (c:=h.hC) (l:=h.hL) hE hdv.dv.U (by rw[hdv.dv.len];omega) hO.al.su hh hO.hs LA 8 8 h.V hQ hV8 Y hVb
 generalize ids (h.L g d)=I at*
 unfold Ko.L Ko.C at H
 refine BM 30 func42 O (Aw (qw ?_))
 refine eY ?_
 refine BR O UA (BD H 0 O O q38 ag4 (dX ?_))
 refine AP (eY ?_)
 refine BR O Yh (BD H 0 O O O acU (s_call O (hCm (Heap.table (H.order [1,2,0,3,4,5,6] O O)).part) (auH O) ?_))
 rintro e W1 ⟨rfl,H'⟩
 refine⟨_,rfl,?_⟩
 have H2:=Heap.ahK ((Heap.table (H.order [1,2,0,3,4,5,6] rfl rfl)).step H' (fun i hi=>hi));clear H H';have H:Heap w I [_,_,_,_,_,_,_] _:=H2.order [2,0,1,3,4,5,6] rfl rfl;clear H2
 refine mW ?_
 refine AO (eY ?_)
 refine BR O Yh (BD H 0 O O O acU (BI H O (hLa (H.one 2 O)) (asR O) fun W1 H=>Ea H O Vg fun p4 _ H=>wu ?_))
 clear H;refine ayJ fun _ H=>?_
 refine Au (AP ?_)
 refine Gu mixed ?_;replace H:=H.drew
 refine bJ ?_
 refine Eo 2 O O O (fun _ hS=>CB O aah) trivial (Eo 4 O O O (fun _ hS=>ai5 O underlying103 Kz Y) trivial (Bd 3 O (BD H 1 O O q35 ait (iE ?_))))
 refine s_call O (hRs (some ⟨p4,0,none⟩) (H.Ew [2,4] O O).ents (fun _=>⟨p4,0,rfl,H.apart 3 O p4 (by simp[blk]),H.V3 0 O hVm.symm⟩)) (arK O) ?_
 rintro e W1 ⟨l',hst,rfl,H'⟩
 refine⟨_,rfl,?_⟩
 have H:=H.DN 4 rfl H';clear H';simp only[Bv]at H
 refine aj ?_
 refine CJ (AO (Aw (fH ?_)))
 exact⟨d',l',ed,by rw[hst.len,CV],rfl,H.drop⟩
theorem apm(hE:DW (h.L g d) w)(hO:Ia d m n id h N)(hg:Wi g m)(r q:Nat)(hr:r<8)(hq:q<8)(i a v:Int)(hra:h.rg.getD r 0=a)(hqv:h.rg.getD q 0=v)(ha:Gz h.s.U a=true)(hi:0≤i∧i<Ob.hp d.cache a)(hv:0≤v∧v<131072):Calls prog 72 [ptr h.pH,.agg [.int .i64 (0:Nat),.int .i64 r].toArray,.int .i64 i,.agg [.int .i64 (0:Nat),.int .i64 q].toArray].toArray w fun e w'=>∃d' ZN hL',Sto d d' m (a+(1+i)).toNat v∧Ib h.sB h.sA h.sC ZN∧hL'.length=h.hL.length∧e= .returned (.int .i64 0)∧Heap w (ids (h.L g d)) (Ko.L g d' {h with sL:=ZN,hL:=hL'}) w':=by
 subst hra hqv
 have H:=Heap.start hE
 generalize ids (h.L g d)=I at*
 have h32:=hO.r32
 have hm:=hO.dev.hm
 have hn:=hO.dev.n2
 have hdl:=hO.dev.len
 obtain⟨q35,q36,q37,q38⟩:=ab9 (p:=g.p) (pA:=h.s.pA) (t:=h.t) (Qb:=h.hP) (pC:=h.pC) (Qd:=h.sP) h32
 obtain⟨_,_,_,hhd,avz,_,_,_⟩:=hO.al.obj hO.dev.dv.U ha
 have hNd:=fun{W:World} hE=>ahb (g:=g) (d:=d) (h:=h) (w:=W) hE h32 r hr Y
 have hGt:=fun{W:World} hE=>agb (w:=W) (b:=h.pH) (p:=g.p) (pA:=h.s.pA) (t:=h.t) (Qb:=h.hP) (pC:=h.pC) (Qd:=h.sP) (R:=h.rg) hE h32 0 q Y hq
 simp only[KH,DT]at hGt
 have hDn:=fun{h:Ko} {d:Nv.D} {W:World} hE=>agG (g:=g) (d:=d) (h:=h) (w:=W) hE
 generalize h.rg.getD q 0=v at*
 generalize h.rg.getD r 0=a at*
 have hPt:=fun{W:World} hE=>ai3 (g:=g) (d:=d) (w:=W) hE hO.dev.dv.U Y a i hhd hi
 have hSt:=fun{W:World} hE=>alV (g:=g) (d:=d) (m:=m) (w:=W) hE hO.dev.dv Y a i v hhd hi Y
 have hSh:=fun{W:World} hE=>air (g:=g) (d:=d) (h:=h) (w:=W) hE hO v
 have hHs:=fun{W:World} hE=>awD (pA:=h.s.pA) (pH:=h.hP) (pS:=h.hS) (b:=h.hB) (A:=h.hA) (c:=h.hC) (l:=h.hL) (w:=W) hE hO.hs a
 have hh:∀a,Gz h.s.U a=true→Ob.hd d.cache a=true:=fun a ha=>(Ob.L8 (hO.al.us a ha)).2.2
 have hAd:=fun{W:World} hE=>aqd (g:=g) (d:=d) (s:=h.s) (w:=W) (pH:=h.hP) (pS:=h.hS) (b:=h.hB) (A:=h.hA) (c:=h.hC) (l:=h.hL) hE hO.dev.dv.U Y hO.al.su hh hO.hs v ⟨Y,Y⟩
 refine BM 72 func72 O (Aw (DU H O O fun p5 _ H=>DU H O O fun p7 _ H=>nV ?_))
 refine Dn H 1 O O O UC SN (BI H O (hNd H.drop.drop.ents) (amX O) fun W1 H=>wQ ?_)
 refine AP ?_
 refine Jj (fun f W=>f 0=ptr h.pH∧f 2= .int .i64 i∧f 9= .int .i64 a∧f 11= .int .i64 v∧f 10= .int .i64 0∧Heap w I (h.L g d) W) ?_ ?_
 ·refine Gu mixed ?_;replace H:=H.drew
  refine lZ ?_
  refine BI H O (hGt (H.one 2 O)) (afe O) fun W1 H=>aj ?_
  refine dL ?_
  refine CJ (Dt ?_)
  exact⟨rfl,rfl,rfl,rfl,rfl,H.drop.drop⟩
 clear H
 rintro f W ⟨f0,f2,f9,f11,f10,H⟩
 obtain⟨f,rfl⟩:=Lr f0 f2 f9 f11 f10
 clear f0 f2 f9 f11 f10
 refine AO (gy ?_)
 refine AP (eY ?_)
 refine BR O Wq (BD H 0 O O O Kt (Az O (Az O (BI H O (hPt (H.IQ 1 O)) (XQ O) fun W1 H=>eH ?_))))
 refine Au (aT ?_)
 refine AO (jl ?_)
 refine s_call O (hSh H.ents) (aqF O) ?_
 rintro e W1 ⟨ZN,hss,rfl,H'⟩
 refine⟨_,rfl,?_⟩
 have H:=H.whole H';clear H';simp only[Ko.L,Ko.C]at H
 refine Au (AP (eY ?_))
 refine BR O aah (BD H 0 O O q35 ait (Az O ?_))
 cases hb:Gz h.hL a with
 |true=>
  rw[hb]at hHs
  refine BI H O (hHs (H.Bl 3 O)) (aqo O) fun W1 H=>Au (EI O (sN ?_))
  refine BR O aah (BD H 0 O O q35 ait (Az O (s_call O (hAd (H.Ew [1,3] O O).ents) (aqs O) ?_)))
  rintro e W1 ⟨hL',z,hst,rfl,H'⟩
  refine⟨_,rfl,?_⟩
  have H:=H.DN 3 rfl H';clear H';simp only[Bv]at H
  refine Au (xk ?_)
  rintro e W1 ⟨d',hs,rfl,H'⟩
  refine⟨_,rfl,?_⟩
  have H:=H.aeC 1 rfl H';clear H';simp only[Bv]at H
  refine BI H O ((hDn (h:={h with sL:=ZN,hL:=hL'}) H.ents)) (aoo O) fun W1 H=>fH ?_
  exact⟨d',ZN,hL',hs,hss,hst.len,rfl,H⟩
 |false=>
  rw[hb]at hHs
  refine BI H O (hHs (H.Bl 3 O)) (aqo O) fun W1 H=>dX ?_
  refine xk ?_
  rintro e W1 ⟨d',hs,rfl,H'⟩
  refine⟨_,rfl,?_⟩
  have H:=H.aeC 1 rfl H';clear H';simp only[Bv]at H
  refine BI H O ((hDn (h:={h with sL:=ZN}) H.ents)) (aoo O) fun W1 H=>fH ?_
  exact⟨d',ZN,h.hL,hs,hss,rfl,rfl,H⟩
end
end
end
section
section
def NM(u:Int→Bool)(y:Int):Int:=if u y=true then y else-1
def oPt(c:List Int)(u:Int→Bool)(x:Int):List Int:=(Ob.ptrs c x).map (NM u)
def O5(c:List Int)(x:Int):List Int:=(List.range (Ob.hq c x).toNat).map fun(i:Nat)=>Nv.get c (x+(1+Ob.hp c x+(i:Int)))
theorem Z7(c:List Int)(x:Int):(O5 c x).length=(Ob.hq c x).toNat:=by simp[O5]
structure Rd (c:List Int) (u:Int→Bool) (fr o:List Int) (rs:List Int) (ns:Gr.Nodes):Prop where
 ord:Gr.JO (oPt c u) (fr.map (NM u)) o
 rs:rs=(fr.map (NM u)).map (Gr.J3 o)
 ns:ns=o.map fun x=>((oPt c u x).map (Gr.J3 o),O5 c x)
theorem JO.P{pt:Int→List Int}{fr out:List Int}(h:Gr.JO pt fr out)(P:Int→Prop)(h0:∀x∈fr,0≤x→P x)(h1:∀x,0≤x→P x→∀y∈pt x,0≤y→P y):∀x∈out,P x:=by
 obtain⟨k,hk⟩:=h
 have:=(Gr.akQ pt ⟨[],fr⟩ P h0 J h1 k).2
 rw[hk]at this
 exact fun x hx=>(this x hx).2
theorem Xf(u:Int→Bool)(y:Int):NM u y= -1∨NM u y=y∧u y=true:=by
 unfold NM;split
 ·exact .inr ⟨rfl,by assumption⟩
 ·exact .inl rfl
theorem Rd.used{c:List Int}{u:Int→Bool}{fr o rs:List Int}{ns:Gr.Nodes}(h:Rd c u fr o rs ns):∀x∈o,u x=true:=by
 refine JO.P h.ord (fun x=>u x=true) (fun x hx h0=>?_) fun x _ _ y hy h0=>?_
 ·obtain⟨z,_,rfl⟩:=BX.1 hx
  rcases Xf u z with e|⟨e,e2⟩
  ·rw[e]at h0;omega
  ·rw[e];exact e2
 ·obtain⟨z,_,rfl⟩:=BX.1 hy
  rcases Xf u z with e|⟨e,e2⟩
  ·rw[e]at h0;omega
  ·rw[e];exact e2
theorem Rd.rt{c:List Int}{u:Int→Bool}{fr o rs:List Int}{ns:Gr.Nodes}(h:Rd c u fr o rs ns):Gr.Rt rs ns:=by
 have hl:ns.length=o.length:=by rw[h.ns,Ci]
 refine⟨fun r hr=>?_,fun x hx p hp=>?_⟩
 ·rw[h.rs]at hr
  obtain⟨z,_,rfl⟩:=BX.1 hr
  rw[hl];exact Gr.abR _ _ h.ord.nodup
 ·rw[h.ns]at hx
  obtain⟨y,_,rfl⟩:=BX.1 hx
  obtain⟨z,_,rfl⟩:=BX.1 hp
  rw[hl];exact Gr.abR _ _ h.ord.nodup
theorem Rd.nd{c:List Int}{u:Int→Bool}{fr o rs:List Int}{ns:Gr.Nodes}(h:Rd c u fr o rs ns)(i:Nat)(hi:i<o.length):ns.getD i ([],[])=((oPt c u o[i]).map (Gr.J3 o),O5 c o[i]):=by
 rw[h.ns,Ba,BG,Ar hi];rfl
theorem Rd.self{c:List Int}{u:Int→Bool}{fr o rs:List Int}{ns:Gr.Nodes}(h:Rd c u fr o rs ns):Gr.JO (Gr.ptr ns) rs (Gr.rng o.length):=by
 rw[h.rs]
 exact h.ord.canon fun i hi=>by rw[Gr.ael,h.nd i hi]
theorem Rd.same{c c2:List Int}{u u2:Int→Bool}{fr o o2 rs Xl:List Int}{ns XH:Gr.Nodes}(h:Rd c u fr o rs ns)(k:Rd c2 u2 fr o2 Xl XH)
 (hf:∀r∈fr,NM u2 r=NM u r) (hp:∀x∈o,Ob.ptrs c2 x=Ob.ptrs c x∧O5 c2 x=O5 c x∧∀y∈Ob.ptrs c x,NM u2 y=NM u y):Xl=rs∧XH=ns:=by
 have e1:fr.map (NM u2)=fr.map (NM u):=EU fun r hr=>hf r hr
 have e2:∀x∈o,oPt c2 u2 x=oPt c u x:=fun x hx=>by
  unfold oPt;rw[(hp x hx).1];exact EU fun y hy=>(hp x hx).2.2 y hy
 have hm:=h.ord.map (pt':=oPt c2 u2) (f:=id) (fun x hx=>hx) (fun x hx=>h.ord.pos x hx) (fun x _ y _ e=>e) fun x hx=>by rw[VA];exact e2 x hx
 rw[VA,VA]at hm
 have ho:o2=o:=by
  have:=k.ord
  rw[e1]at this
  exact this.same hm
 subst ho
 refine⟨by rw[k.rs,h.rs,e1],?_⟩
 rw[k.ns,h.ns]
 refine EU fun x hx=>?_
 rw[e2 x hx,(hp x hx).2.1]
structure Shows (c:List Int) (u:Int→Bool) (fr rs:List Int) (ns:Gr.Nodes) (φ:Int→Int):Prop where
 ord:Gr.JO (Gr.ptr ns) rs (Gr.rng ns.length)
 rt:Gr.Rt rs ns
 inj:∀x y,0≤x→x<(ns.length:Int)→0≤y→y<(ns.length:Int)→φ x=φ y→x=y
 use:∀x,0≤x→x<(ns.length:Int)→u (φ x)=true∧0≤φ x
 neg:∀x,x<0→u (φ x)=false
 fr:fr=rs.map φ
 pt:∀x,0≤x→x<(ns.length:Int)→Ob.ptrs c (φ x)=(Gr.ptr ns x).map φ
 dt:∀x,0≤x→x<(ns.length:Int)→O5 c (φ x)=Gr.dat ns x
theorem ZR{k:Nat}{x:Int}:x∈Gr.rng k↔0≤x∧x<(k:Int):=by
 unfold Gr.rng
 rw[BX]
 constructor
 ·rintro⟨i,hi,rfl⟩
  have:=H7.1 hi;omega
 ·rintro⟨h1,h2⟩
  exact⟨x.toNat,H7.2 Y,Y⟩
theorem Shows.read{c:List Int}{u:Int→Bool}{fr rs o Xl:List Int}{ns XH:Gr.Nodes}{φ:Int→Int}(h:Shows c u fr rs ns φ)(k:Rd c u fr o Xl XH):Xl=rs∧XH=ns:=by
 have hψ:∀x,-1≤x→x<(ns.length:Int)→NM u (φ x)=if x<0 then x else φ x:=fun x h1 h2=>by
  unfold NM
  by_cases h0:x<0
  ·rw[h.neg x h0,if_neg Ae,if_pos h0];omega
  ·rw[(h.use x Y h2).1,if_pos rfl,if_neg h0]
 generalize hψd:(fun x:Int=>if x<0 then x else φ x)=ψ at*
 have hψ2:∀x,-1≤x→x<(ns.length:Int)→NM u (φ x)=ψ x:=fun x h1 h2=>by rw[hψ x h1 h2,←hψd]
 have hpos:∀x,0≤x→ψ x=φ x:=fun x h0=>by rw[←hψd];simp only;rw[if_neg Y]
 have hneg:∀x,x<0→ψ x=x:=fun x h0=>by rw[←hψd];simp only;rw[if_pos h0]
 have e1:fr.map (NM u)=rs.map ψ:=by
  rw[h.fr,Ja]
  exact EU fun r hr=>hψ2 r (h.rt.1 r hr).1 (h.rt.1 r hr).2
 have hpt:∀x,0≤x→x<(ns.length:Int)→oPt c u (φ x)=(Gr.ptr ns x).map ψ:=fun x h0 h1=>by
  unfold oPt
  rw[h.pt x h0 h1,Ja]
  exact EU fun y hy=>hψ2 y (h.rt.ptr x y hy).1 (h.rt.ptr x y hy).2
 have hinj:∀x∈Gr.rng ns.length,∀y,-1≤y→y<(ns.length:Int)→ψ x=ψ y→x=y:=fun x hx y hy1 hy2 e=>by
  obtain⟨x1,x2⟩:=ZR.1 hx
  rw[hpos x x1]at e
  by_cases h0:y<0
  ·rw[hneg y h0]at e
   have:=(h.use x x1 x2).2
   omega
  ·rw[hpos y Y]at e
   exact h.inj x y x1 x2 Y hy2 e
 have hm:=h.ord.map (pt':=oPt c u) (f:=ψ) (fun x hx=>by rw[hneg x hx];exact hx) (fun x hx=>by
  obtain⟨x1,x2⟩:=ZR.1 hx
  rw[hpos x x1];exact(h.use x x1 x2).2) (fun x hx y hy e=>by
  obtain⟨y1,y2⟩:=ZR.1 hy
  exact hinj x hx y Y y2 e) fun x hx=>by
  obtain⟨x1,x2⟩:=ZR.1 hx
  rw[hpos x x1];exact hpt x x1 x2
 have ho:o=(Gr.rng ns.length).map ψ:=by
  have:=k.ord
  rw[e1]at this
  exact this.same hm
 have hf:∀y,-1≤y→y<(ns.length:Int)→Gr.J3 ((Gr.rng ns.length).map ψ) (ψ y)=y:=fun y h1 h2=>by
  rw[Gr.aiX (f:=ψ) _ y fun a ha e=>hinj a ha y h1 h2 e]
  exact Gr.an' _ _ ⟨h1,h2⟩
 constructor
 ·rw[k.rs,e1,ho,Ja]
  refine Gr.Zc _ fun r hr=>hf r (h.rt.1 r hr).1 (h.rt.1 r hr).2
 ·rw[k.ns,ho,Ja]
  apply FU (by simp[Gr.rng])
  intro i h1 h2
  rw[Hr]
  have hi:(Gr.rng ns.length)[i]'(by simpa using h1)=(i:Int):=by simp[Gr.rng]
  rw[hi]
  have hil:(i:Int)<(ns.length:Int):=Y
  show((oPt c u (ψ i)).map _,O5 c (ψ i))=_
  rw[hpos i Y,hpt i Y hil,h.dt i Y hil,Ja,Gr.ael,Gr.agK,Ba,Ar h2]
  show(List.map _ ns[i].1,ns[i].2)=ns[i]
  have:List.map (Gr.J3 ((Gr.rng ns.length).map ψ)∘ψ) ns[i].1=ns[i].1:=Gr.Zc _ fun y hy=>by
   have:=h.rt.2 ns[i] (FT _) y hy
   exact hf y this.1 this.2
  rw[this]
end
end
section
section
def YX(m c:Nat):Nat:=if m=0 then 0 else(m-1)/c+1
theorem alB{m c:Nat}(hm:0<m)(hc:0<c):YX (m-c) c+1=YX m c:=by
 unfold YX
 rw[if_neg (by omega:¬m=0)]
 by_cases h:m≤c
 ·rw[if_pos Y,YR Y]
 ·rw[if_neg Y]
  have:(m-1)/c=(m-c-1)/c+1:=by rw[show m-1=(m-c-1)+c by omega,Nat.add_div_right _ hc]
  rw[this]
theorem ao3{m c:Nat}(hm:0<m):0<YX m c:=by unfold YX;rw[if_neg Y];exact Nat.succ_pos _
def sumTo(f:Nat→Nat):Nat→Nat
 |0=>0
 |n+1=>sumTo f n+f n
theorem sumTo_congr{f g:Nat→Nat}:∀n,(∀i,i<n→f i=g i)→sumTo f n=sumTo g n
 |0,_=>rfl
 |n+1,h=>by rw[sumTo,sumTo,sumTo_congr n (fun i hi=>h i Y),h n Y]
theorem abf{f g:Nat→Nat}{k:Nat}:∀n,k<n→(∀i,i<n→i≠k→f i=g i)→sumTo f n+g k=sumTo g n+f k
 |0,h,_=>by omega
 |n+1,h,e=>by
  rw[sumTo,sumTo]
  by_cases hk:k=n
  ·subst hk
   rw[sumTo_congr (f:=f) (g:=g) k fun i hi=>e i Y Y];omega
  ·have:=abf (f:=f) (g:=g) (k:=k) n Y (fun i hi=>e i Y)
   have:=e n Y (fun h=>hk h.symm)
   omega
theorem sumTo_le{f g:Nat→Nat}:∀n,(∀i,i<n→f i≤g i)→sumTo f n≤sumTo g n
 |0,_=>Bg _
 |n+1,h=>by
  have h1:=sumTo_le n (fun i hi=>h i Y:∀i,i<n→f i≤g i)
  have h2:=h n Y
  rw[sumTo,sumTo];omega
theorem afs{f:Nat→Nat}{k:Nat}:∀n,k<n→f k≤sumTo f n
 |0,h=>by omega
 |n+1,h=>by
  rw[sumTo]
  by_cases hk:k=n
  ·subst hk;omega
  ·have:=afs (f:=f) (k:=k) n Y;omega
def YA(k:Nat):Nat:=(Cl.cells (k:Int)).toNat
theorem aip{k:Nat}(hk:k<32):0<YA k:=by
 have h1:=Cl.abu (k:Int) 0 Y Y Y
 have h2:=Cl.Tc (k:Int)
 have:(0:Int)<Cl.cells k:=h1.1 Y
 unfold YA;omega
def need(m l:Nat→Nat):Nat:=sumTo (fun k=>YX (m k-l k) (YA k)) 32
def frs(hs:List Ob.H3):Nat:=(hs.drop 1).countP fun x=>decide (x.1=0)
theorem apz{hs:List Ob.H3}{n:Nat}(hl:hs.length=n)(h:0<frs hs):∃b:Nat,UR hs n b:=by
 unfold frs at h
 obtain⟨x,hx,h0⟩:=WL.1 h
 obtain⟨i,hi,e⟩:=DY.1 hx
 rw[CZ]at hi
 rw[List.getElem_drop]at e
 exact⟨1+i,Y,Y,x,by rw[Bz,Ar Y,e],of_decide_eq_true h0⟩
theorem countP_set{α:Type}(p:α→Bool):∀(l:List α) (i:Nat) (x y:α),l[i]? =some x→p x=true→p y=false→(l.set i y).countP p+1=l.countP p
 | [],i,x,y,h,_,_=>by simp at h
 |a::l,0,x,y,h,hx,hy=>by
  simp at h
  subst h
  rw[AZ,Lc,Lc,hx,hy];simp
 |a::l,i+1,x,y,h,hx,hy=>by
  rw[AY,Lc,Lc]
  have:=countP_set p l i x y zS hx hy
  omega
theorem apI{hs:List Ob.H3}{n b:Nat}(hb:UR hs n b)(k:Int):frs (hs.set b (1,k,0))+1=frs hs:=by
 obtain⟨h1,h2,x,h3,h4⟩:=hb
 rw[Bz]at h3
 unfold frs
 obtain⟨i,rfl⟩:∃i,b=i+1:=⟨b-1,Y⟩
 cases hs with
 |nil=>simp at h3
 |cons a l=>
  rw[AY]
  exact countP_set _ l i x _ (by simpa using h3) (decide_eq_true h4) (decide_eq_false (by show¬(1:Int)=0;omega))
theorem akl{m m':Nat→Nat}{s s':List Ob.H3}{l l':Nat→Nat}{k n:Nat}(hk:k<32)(hm:m' k+1=m k)(hmo:∀j,j≠k→m' j=m j)(ho:∀j,j≠k→l' j=l j)
 (hc:s'=s∧l' k+1=l k∨l k=0∧(∃b:Nat,UR s n b∧s'=s.set b (1,(k:Int),0))∧(l' k:Int)+1=Cl.cells k) (h:need m l≤frs s):need m' l'≤frs s':=by
 have hat:=abf (f:=fun k=>YX (m' k-l' k) (YA k)) (g:=fun k=>YX (m k-l k) (YA k)) 32 hk fun i hi hne=>by show YX _ _=YX _ _;rw[hmo i hne,ho i hne]
 unfold need at*
 try dsimp only at hat
 rcases hc with⟨rfl,e⟩|⟨e,⟨b,hb,rfl⟩,e2⟩
 ·have:m' k-l' k=m k-l k:=Y
  rw[this]at hat
  omega
 ·have hcl:l' k+1=YA k:=by unfold YA;omega
  have:=alB (m:=m k) (c:=YA k) Y (aip hk)
  have e3:m' k-l' k=m k-YA k:=Y
  have e4:m k-l k=m k:=Y
  rw[e3,e4]at hat
  have:=apI hb (k:Int)
  omega
theorem ajg{m l:Nat→Nat}{hs:List Ob.H3}{n k:Nat}(hl:hs.length=n)(hk:k<32)(hm:0<m k)(h:need m l≤frs hs):l k≠0∨∃b:Nat,UR hs n b:=by
 by_cases h0:l k=0
 ·refine .inr (apz hl ?_)
  have:=afs (f:=fun k=>YX (m k-l k) (YA k)) (k:=k) 32 hk
  have:=ao3 (m:=m k-l k) (c:=YA k) Y
  unfold need at h
  try dsimp only at*
  omega
 ·exact .inl h0
def IZ(zs:List Int)(k:Nat):Nat:=zs.countP fun z=>decide (Cl.WQ z=(k:Int))
theorem acz(z:Int)(zs:List Int)(k:Nat)(hk:Cl.WQ z=k):IZ zs k+1=IZ (z::zs) k∧∀j,j≠k→IZ zs j=IZ (z::zs) j:=by
 unfold IZ
 refine⟨by rw[Lc,decide_eq_true hk];rfl,fun j hj=>?_⟩
 rw[Lc,decide_eq_false Y];rfl
theorem adt(f g:Nat→Nat):∀n,sumTo (fun i=>f i+g i) n=sumTo f n+sumTo g n
 |0=>rfl
 |n+1=>by rw[sumTo,sumTo,sumTo,adt f g n];omega
theorem ae':∀(zs:List Int),sumTo (IZ zs) 32≤zs.length
 | []=>by decide
 |z::zs=>by
  have hb:=Cl.QO z
  obtain⟨k,hk⟩:=Bo hb.1
  obtain⟨h1,h2⟩:=acz z zs k hk
  have:=abf (f:=IZ zs) (g:=IZ (z::zs)) (k:=k) 32 Y fun i _ hne=>h2 i hne
  have:=ae' zs
  rw[Em];omega
theorem aln:∀n:Nat,n<122→1≤n→4≤Cl.cells (Cl.WQ (n:Int)):=by decide
theorem al8{m c:Nat}(h:0<m→4≤c):4*YX m c≤m+3:=by
 unfold YX
 split
 ·omega
 ·have h4:=h Y
  have:(m-1)/c≤(m-1)/4:=Nat.div_le_div_left h4 Y
  omega
theorem agj{zs:List Int}(hl:zs.length≤40)(hz:∀z∈zs,1≤z∧z≤121)(l:Nat→Nat):need (IZ zs) l≤34:=by
 have h1:4*need (IZ zs) l≤sumTo (fun k=>IZ zs k+3) 32:=by
  have e:∀f n,4*sumTo f n=sumTo (fun k=>4*f k) n:=fun f n=>by
   induction n with
   |zero=>rfl
   |succ n ih=>rw[sumTo,sumTo,←ih];omega
  unfold need
  rw[e]
  refine sumTo_le 32 fun k hk=>?_
  have:=al8 (m:=IZ zs k-l k) (c:=YA k) fun h0=>by
   have hp:0<IZ zs k:=Y
   obtain⟨z,hzm,hzk⟩:=WL.1 hp
   have hz1:=hz z hzm
   have:=aln z.toNat Y Y
   rw[JD Y,of_decide_eq_true hzk]at this
   unfold YA;omega
  omega
 have h2:=ae' zs
 rw[adt (IZ zs) (fun _=>3) 32]at h1
 have h3:sumTo (fun _=>3) 32=96:=by decide
 omega
end
end
end Go.Proofs.YtppilhpcmkekbaaGreat
