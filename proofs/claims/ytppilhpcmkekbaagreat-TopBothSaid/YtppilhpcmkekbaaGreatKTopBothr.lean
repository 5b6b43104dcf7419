/- Parts of the proof. -/
import Derived.Test.YtppilhpcmkekbaaGreatKTopBothk
import Derived.Test.YtppilhpcmkekbaaGreatKTopBothq
set_option linter.unusedSimpArgs false
set_option linter.unusedVariables false
set_option linter.unusedSectionVars false
set_option maxRecDepth 100000
set_option maxHeartbeats 16000000
namespace Go.Proofs.YtppilhpcmkekbaaGreat
open Go.Proofs.Tryz
section
section
open Go.RowKit
theorem aw0(l0 l1 l2 l3 l4 l5 l6 l7:Int)(h0:Ui l0)(h1:Ui l1)(h2:Ui l2)(h3:Ui l3)(h4:Ui l4)(h5:Ui l5)(h6:Ui l6)(h7:Ui l7):
 aqL [l0,l1,l2,l3,l4,l5,l6,l7] (Su.Qj l0 l1 l2 l3 l4 l5 l6 l7) (Su.abT l0 l1 l2 l3 l4 l5 l6 l7) (Su.MJ l0 l1 l2 l3 l4 l5 l6 l7):=by
 refine⟨fun w=>(amd l0 l1 l2 l3 l4 l5 l6 l7 w h0 h1 h2 h3 h4 h5 h6 h7).mono (fun _ _ h=>⟨h.1,Only.of_below h.2 _⟩),?_⟩
 unfold Su.Qj
 split
 ·rename_i h
  obtain⟨_,_,_,_,_,_,a,b⟩:=h
  omega
 ·omega
theorem agR(b:Int)(w:World)(h:0≤b∧b≤1000000):
 Calls prog 31 [.agg [.int .i64 b].toArray].toArray w fun e w'=>e= .returned (.bool (Su.Ia b))∧Only [] w w':=
 (QV b w Y Y).mono fun _ _ h=>⟨h.1,Only.of_below h.2 _⟩
def YL(b id:Int):List Int:=[8390047168116913201,1,b,id,0,0,0,Su.crc b id]
theorem awv(b id:Int)(w:World)(h:0≤b∧b≤1000000)(h2:Ui id):
 Calls prog 165 [.agg [.int .i64 b,.int .u64 id].toArray].toArray w fun e w'=>e= .returned (.agg ((YL b id).map (Value.int .u64)).toArray)∧Only [] w w':=
 (aaT b id w Y Y h2.1 h2.2).mono fun _ _ h=>⟨h.1,Only.of_below h.2 _⟩
theorem ajJ(g:Geo)(d:Nv.D)(m:Nat)(b id:Int)(w:World)(hE:Dj (Dy g d) w)(hI:Nv.Inv d m)(hl:Nv.Live d)(hg:Q5 g m)(hm:1≤m∧m≤100000)(h:2≤b∧b≤256)(hid:Ui id)(hn:b*512=d.cache.length):
 Calls prog 103 [ptr g.p,.agg [.int .i64 b,.int .u64 id].toArray].toArray w fun e w'=>e= .returned (.int .i64 0)∧Heap w (ids (Dy g d)) (Dy g (Nv.persist (Nv.WZ d (YL b id) 8) m 0 8).1) w':=by
 have H:=IJ hE
 have hG:=fun w=>agR b w Y
 rw[Su.F7 b h.1 h.2]at hG
 have hw8:(YL b id).length=8:=rfl
 obtain⟨hp0,hpI,_⟩:=Nv.ajS hI hl hw8 hm.1
 have XR:=fun w=>awv b id w Y hid
 generalize YL b id=ws at*
 refine BO 39 func103 O (AP (D9 H O O fun p3 _ H=>AY O (AO (AP (BI O Z7 (fV ?_))))))
 refine AV (FI (YT _) O) (Ei H O afn fun p5 _ H=>En H 0 O O O O O O O He ?_)
 clear H;refine axS fun _ H=>?_
 refine AO (A8 (AP (uG ?_)))
 refine BL H O (hG _) (asw O) fun W1 H=>AV (Ea O) (BX O (Bo 15 O (J5 H 0 O O O Ic He) (s_call (ET 15 Aw O) (abL b _ Y) (am1 O) ?_)))
 rintro e W1 ⟨rfl,H'⟩
 refine⟨_,rfl,?_⟩
 have H:=H.same H';clear H'
 refine Bo 15 O (Ls O) (s_call (ET 15 Aw O) (Zw g d _ (H.Bl 2 O)) (Qq O) ?_)
 rintro e W1 ⟨rfl,H'⟩
 refine⟨_,rfl,?_⟩
 have H:=H.same H';clear H'
 refine Bo 15 O (Dc O O Y) (gQ ?_)
 refine A8 (AP (Dw H 1 O O O adk SY (BL H O (XR _) (avC O) fun W1 H=>xH ?_)))
 refine EO (fun z f W=>∃k:Nat,k≤8∧z=8-k∧f 0=ptr g.p∧f 23= .agg (ws.map (Value.int .u64)).toArray∧f 24= .int .i64 k∧Heap w (ids (Dy g d)) [blk p5 [.int .i64 b] 79,blk p3 [.int .i64 b,.int .u64 id] 113,grp (Dy g (Nv.WZ d ws k))] W) 8 ⟨0,Y,rfl,rfl,rfl,rfl,H⟩ ?_
 clear H
 rintro z f W ⟨k,hk,rfl,f0,f23,f24,H⟩
 obtain⟨f,rfl⟩:=KI f0 f23 f24
 clear f0 f23 f24
 have hIk:=Nv.aag hI ws k Y
 have hLk:=Nv.aau hl ws k
 by_cases hlt:k<8
 ·have hz:(ws.map (Value.int .u64))[k]? =some (.int .u64 (ws.getD k 0)):=by
   rw[Cb,Ba Y,BN,Ba Y];rfl
  have hS:=fun W hE=>YO g (Nv.WZ d ws k) m (0+(k:Int)) (ws.getD k 0) W hE hIk.ok hm.2
  have eS:Nv.store (Nv.WZ d ws k) m (0+(k:Int)) (ws.getD k 0)=(Nv.put (Nv.stepped (Nv.WZ d ws k)) k (ws.getD k 0),0):=by rw[Int.zero_add];exact Nv.WV hLk Y _
  rw[eS]at hS
  refine aB ?_
  refine AQ O (AV (Uh (i:=k) (v:= .int .u64 (ws.getD k 0)) O O O hlt hz underlying245 MB Gh) (kG ?_))
  refine eH ?_
  refine dw ?_
  refine AQ O (s_call O (hS _ (H.Bl 2 O)) (JI O) ?_)
  rintro e W1 ⟨rfl,H'⟩
  refine⟨_,rfl,?_⟩
  have H1:=H.CX 2 rfl H';clear H H';have H:=H1;clear H1;simp only[Bd,Bf]at H
  refine wV ?_
  refine⟨_,_,?_,rfl,k+1,Y,rfl,rfl,rfl,rfl,H⟩
  omega
 ·obtain rfl:k=8:=Y
  have hP:=fun W hE=>U3 g (Nv.WZ d ws 8) m 0 8 W hE hIk.ok hg hm.2
  rw[hp0]at hP
  refine oh ?_
  refine Bg O (s_call O (hP _ (H.Bl 2 O)) (Uz O) ?_)
  rintro e W1 ⟨rfl,H'⟩
  refine⟨_,rfl,?_⟩
  have H1:=H.CX 2 rfl H';clear H H';have H:=H1;clear H1;simp only[Bd,Bf]at H
  refine eu ?_
  exact⟨rfl,Hr H.drop.drop⟩
theorem amV(b id:Int)(h:2≤b∧b≤256)(hid:Ui id):aqL (YL b id) b id 0:=by
 have hc:=Su.ahb b id
 have hd:=aw0 8390047168116913201 1 b id 0 0 0 (Su.crc b id) ⟨Y,Y⟩ ⟨Y,Y⟩ ⟨Y,Y⟩ hid ⟨Y,Y⟩ ⟨Y,Y⟩ ⟨Y,Y⟩ ⟨Y,Y⟩
 have hk:Su.okB 1 b 0 0 0:=⟨rfl,rfl,rfl,rfl,h.1,h.2⟩
 obtain⟨e1,e2,e3⟩:=Su.alB 1 b id 0 0 0 hk
 have hs:Su.Ej 1 b id 0 0 0=Su.crc b id:=Su.anI b id
 rw[hs]at e1 e2 e3
 rw[e1,e2,e3]at hd
 exact hd
end
end
section
section
structure Lay (d d':Nv.D) (m a n:Nat) (f:Nat→Int):Prop where
 D:Dv d' m
 i:∀x:Nat,x<n→Nv.get d'.cache ((a+x:Nat):Int)=f x
 o:∀x:Int,¬((a:Int)≤x∧x<a+n)→Nv.get d'.cache x=Nv.get d.cache x
 k:∀j,UU d j=false→UU d' j=false
theorem Wri.lay{d d1 d2:Nv.D}{m a n:Nat}{f:Nat→Int}(h:Wri d d1 m a n f)(p:Per d1 d2 m a n):Lay d d2 m a n f:=by
 refine⟨p.D,fun x hx=>by rw[p.c];exact h.i x hx,fun x hx=>by rw[p.c];exact h.o x hx,fun j hj=>?_⟩
 by_cases e:∃x,a≤x∧x<a+n∧x/8=j
 ·obtain⟨x,h1,h2,rfl⟩:=e
  exact p.q x h1 h2
 ·refine p.k j ?_
  rw[h.k j fun x h1 h2 h3=>e ⟨x,h1,h2,h3⟩]
  exact hj
theorem Dv.Ii{d:Nv.D}{m:Nat}(h:Dv d m){a:Nat}(ha:a+16≤8*m){ws:List Int}(hw:∀i,i<16→0≤ws.getD i 0∧ws.getD i 0≤18446744073709551615):∀k,k≤16→
 (Nv.Ii d m a ws k).2=0∧Dv (Nv.Ii d m a ws k).1 m∧(∀i,i<k→Nv.get (Nv.Ii d m a ws k).1.cache ((a+Nv.order.getD i 0:Nat):Int)=ws.getD (Nv.order.getD i 0) 0)∧
  (∀x:Int,(∀i,i<k→x≠((a+Nv.order.getD i 0:Nat):Int))→Nv.get (Nv.Ii d m a ws k).1.cache x=Nv.get d.cache x)∧(∀j,(∀x,a≤x→x<a+16→x/8≠j)→UU (Nv.Ii d m a ws k).1 j=UU d j)
 |0,_=>⟨rfl,h,fun i hi=>Y,fun x _=>rfl,fun j _=>rfl⟩
 |k+1,hk=>by
  obtain⟨h1,h2,h3,h4,h5⟩:=h.Ii ha hw k Y
  have ho:=Nv.abP k Y
  obtain⟨d',e,hs⟩:=h2.stored (a:=a+Nv.order.getD k 0) Y (hw _ ho)
  have hg:=hs.get Y h2.len
  have e2:Nv.Ii d m a ws (k+1)=(d',0):=by
   rw[Nv.VO d m a ws k h1,←e]
   congr 1
  rw[e2]
  refine⟨rfl,hs.D,fun i hi=>?_,fun x hx=>?_,fun j hj=>?_⟩
  ·rw[hg]
   split
   ·rename_i ee
    have:Nv.order.getD i 0=Nv.order.getD k 0:=Y
    rw[this]
   ·rename_i ee
    refine h3 i ?_
    rcases Nat.lt_succ_iff_lt_or_eq.1 hi with h6|rfl
    ·exact h6
    ·exact absurd rfl ee
  ·rw[hg,if_neg (hx k Y)]
   exact h4 x fun i hi=>hx i Y
  ·rw[hs.k j ?_]
   ·exact h5 j hj
   ·intro ee
    exact hj (a+Nv.order.getD k 0) Y Y ee.symm
theorem Dv.wr{d:Nv.D}{m:Nat}(h:Dv d m){a:Nat}(ha:a+16≤8*m){ws:List Int}(hw:∀i,i<16→0≤ws.getD i 0∧ws.getD i 0≤18446744073709551615):∃d',Nv.wr d m a ws=(d',0)∧Lay d d' m a 16 fun x=>ws.getD x 0:=by
 obtain⟨h1,h2,h3,h4,h5⟩:=h.Ii ha hw 16 Y
 obtain⟨d',e,hp⟩:=h2.persisted (a:=a) (n:=16) ha
 refine⟨d',by rw[Nv.al8 _ _ _ _ h1];exact e,Wri.lay ⟨h2,fun x hx=>?_,fun x hx=>h4 x fun i hi=>?_,h5⟩ hp⟩
 ·obtain⟨j,hj,rfl⟩:=Nv.adf x hx
  exact h3 j hj
 ·have:=Nv.abP i hi
  omega
theorem Dv.WZ{d:Nv.D}{m:Nat}(h:Dv d m)(hm:1≤m){ws:List Int}(hw:∀i,0≤ws.getD i 0∧ws.getD i 0≤18446744073709551615):∀k,k≤8→Wri d (Nv.WZ d ws k) m 0 k fun x=>ws.getD x 0
 |0,_=>⟨h,fun x hx=>Y,fun x _=>rfl,fun j _=>rfl⟩
 |k+1,hk=>by
  have ih:=h.WZ hm hw k Y
  obtain⟨d',e,hs⟩:=ih.D.stored (a:=k) Y (hw k)
  have hg:=hs.get Y ih.D.len
  have e2:Nv.WZ d ws (k+1)=d':=by
   have e3:=Nv.WV (m:=m) ih.D.L (a:=k) Y (ws.getD k 0)
   rw[e]at e3
   injection e3 with e3 _
   rw[e3];rfl
  rw[e2]
  refine⟨hs.D,fun x hx=>?_,fun x hx=>?_,fun j hj=>?_⟩
  ·rw[hg]
   split
   ·rename_i ee
    rw[show x=k by omega]
   ·rename_i ee
    exact ih.i x Y
  ·rw[hg,if_neg Y]
   exact ih.o x Y
  ·have ne:j≠k/8:=fun ee=>hj k Y Y ee.symm
   rw[hs.k j ne]
   exact ih.k j fun x h1 h2=>hj x h1 Y
end
end
section
section
open Go.RowKit
section
variable{g:Geo}{d:Nv.D}{m n:Nat}{w:World}
theorem amX(hE:Dj (Dy g d) w)(hD:Dv d m)(hg:Q5 g m)(hm:m≤100000)(hn:2≤n∧n≤256)(hmn:512≤8*m):
 Calls prog 101 [ptr g.p,.agg [.int .i64 n].toArray].toArray w fun e w'=>∃d',Lay d d' m 257 (n-1) (fun x=>Bh.enc 0 0 0 (257+x))∧e= .returned (.int .i64 0)∧Heap w (ids (Dy g d)) (Dy g d') w':=by
 have H:=IJ hE
 generalize ids (Dy g d)=I at*
 refine BO 31 func101 O (AP (D9 H O O fun p3 _ H=>AY O (AO (vT ?_))))
 refine EO (fun z f W=>∃(b:Nat) (d1:Nv.D),1≤b∧b≤n∧z=n-b∧Wri d d1 m 257 (b-1) (fun x=>Bh.enc 0 0 0 (257+x))∧f 0=ptr g.p∧f 3=ptr p3∧f 5= .int .i64 b∧Heap w I [blk p3 [.int .i64 n] 79,grp (Dy g d1)] W) (n-1) ⟨1,d,Y,Y,rfl,⟨hD,fun x h=>Y,fun x _=>rfl,fun j _=>rfl⟩,rfl,rfl,rfl,H⟩ ?_
 clear H
 rintro z f W ⟨b,d1,hb1,hb,rfl,hw,f0,f3,f5,H⟩
 obtain⟨f,rfl⟩:=KI f0 f3 f5
 clear f0 f3 f5
 by_cases hlt:b<n
 ·have XG:=fun(W:World)=>Wi (n:Int) (b:Int) W Y Y
  have XR:=fun(W:World)=>anb (b:Int) 0 0 0 W Y rfl
  have heb:=Bh.abr 0 0 0 (256+(b:Int))
  obtain⟨d2,e2,h2⟩:=hw.D.stored (a:=256+b) Y heb
  have hg2:=h2.get Y hw.D.len
  have eai:((256+b:Nat):Int)=256+(b:Int):=Y
  have hSt:=fun{W:World} hE=>Ua (g:=g) (w:=W) hE hw.D hm e2
  rw[eai]at hSt
  refine iQ ?_
  refine BI O QU (fV ?_)
  refine fC ?_
  refine AP (Bg O (uG ?_))
  refine AQ O (BL H O (XG _) (MO O) fun W1 H=>AQ O (AV (FI (ap0) O) (BL H O (XR _) (Oo O) fun W1 H=>s_call O (hSt (H.Bl 1 O)) (JI O) ?_)))
  rintro e W1 ⟨rfl,H'⟩
  refine⟨_,rfl,?_⟩
  have H:=H.CX 1 rfl H';clear H';simp only[Bv]at H
  refine uZ ?_
  refine⟨_,_,?_,rfl,b+1,d2,Y,Y,rfl,⟨h2.D,fun x hx=>?_,fun x hx=>?_,fun j hj=>?_⟩,rfl,rfl,rfl,H⟩
  ·omega
  ·rw[hg2]
   split
   ·rename_i e
    rw[show(257:Int)+x=256+b by omega]
   ·exact hw.i x Y
  ·rw[hg2,if_neg Y]
   exact hw.o x Y
  ·have ne:j≠(256+b)/8:=fun ee=>hj (256+b) Y Y ee.symm
   rw[h2.k j ne]
   exact hw.k j fun x h3 h4=>hj x h3 Y
 ·obtain rfl:b=n:=Y
  have XG:∀W:World,_:=fun(W:World)=>Wi (b:Int) 1 W Y Y
  rw[show(256:Int)+1=257 from rfl]at XG
  obtain⟨d2,e2,h2⟩:=hw.D.persisted (a:=257) (n:=b-1) Y
  have e1:((b-1:Nat):Int)=(b:Int)-1:=Y
  have hPe:=fun{W:World} hE=>V4 (g:=g) (w:=W) hE hw.D hg hm e2
  rw[e1]at hPe
  refine iQ ?_
  refine BI O QU (fV ?_)
  refine og ?_
  refine A8 ?_
  refine G5 mixed ?_;replace H:=H.drew
  refine xw ?_
  refine EC 3 O O O (fun _ hS=>Cm O QU) trivial ?_
  refine Et 1 4 ?_ ?_
  ·refine CB O (uG ?_)
   refine ak ?_
   refine Et 2 4 ?_ ?_
   ·refine CB O (BL H O (XG _) (MO O) fun W1 H=>jd ?_)
    refine rC ?_
    refine BD 6 O (s_call O (hPe (H.Bl 1 O)) (Uz O) ?_)
    rintro e W1 ⟨rfl,H'⟩
    refine⟨_,rfl,?_⟩
    have H:=H.CX 1 rfl H';clear H';simp only[Bv]at H
    refine iw ?_
    refine BM (aK ?_)
    exact⟨d2,hw.lay h2,rfl,Hr H.drop⟩
   ·refine CB O (rC ?_)
    refine BD 2 O (BL H O (XG _) (MO O) fun W1 H=>ak ?_)
    refine BD 6 O (s_call O (hPe (H.Bl 1 O)) (Uz O) ?_)
    rintro e W1 ⟨rfl,H'⟩
    refine⟨_,rfl,?_⟩
    have H:=H.CX 1 rfl H';clear H';simp only[Bv]at H
    refine iw ?_
    refine BM (aK ?_)
    exact⟨d2,hw.lay h2,rfl,Hr H.drop⟩
  ·refine CB O (rC ?_)
   refine BD 1 O (uG ?_)
   refine ak ?_
   refine BD 2 O (BL H O (XG _) (MO O) fun W1 H=>ak ?_)
   refine BD 6 O (s_call O (hPe (H.Bl 1 O)) (Uz O) ?_)
   rintro e W1 ⟨rfl,H'⟩
   refine⟨_,rfl,?_⟩
   have H:=H.CX 1 rfl H';clear H';simp only[Bv]at H
   refine iw ?_
   refine BM (aK ?_)
   exact⟨d2,hw.lay h2,rfl,Hr H.drop⟩
theorem ah'(b id:Int)(h:2≤b∧b≤256)(hid:Ui id)(i:Nat):0≤(YL b id).getD i 0∧(YL b id).getD i 0≤18446744073709551615:=by
 have hc:=Su.ahb b id
 have h1:=hid.1
 have h2:=hid.2
 match i with
 |0=>exact⟨by show(0:Int)≤8390047168116913201;omega,by show(8390047168116913201:Int)≤(18446744073709551615:Int);omega⟩
 |1=>exact⟨by show(0:Int)≤1;omega,by show(1:Int)≤(18446744073709551615:Int);omega⟩
 |2=>show 0≤b∧b≤_;omega
 |3=>exact⟨h1,h2⟩
 |4=>exact⟨by show(0:Int)≤0;omega,by show(0:Int)≤(18446744073709551615:Int);omega⟩
 |5=>exact⟨by show(0:Int)≤0;omega,by show(0:Int)≤(18446744073709551615:Int);omega⟩
 |6=>exact⟨by show(0:Int)≤0;omega,by show(0:Int)≤(18446744073709551615:Int);omega⟩
 |7=>show 0≤Su.crc b id∧Su.crc b id≤_;omega
 |j+8=>exact⟨by show(0:Int)≤0;omega,by show(0:Int)≤_;omega⟩
theorem adJ{l:List Int}(h:Im.U l)(i:Nat):0≤l.getD i 0∧l.getD i 0≤18446744073709551615:=by
 rw[BN]
 cases e:l[i]? with
 |none=>exact⟨by show(0:Int)≤0;omega,by show(0:Int)≤_;omega⟩
 |some x=>exact h x (BP e)
def zr8:List Int:=[0,0,0,0,0,0,0,0]
theorem aly(hE:Dj (Dy g d) w)(hD:Dv d m)(hg:Q5 g m)(hm:m=64*n)(hn:2≤n∧n≤256)(id:Int)(hid:Ui id):
 Calls prog 34 [ptr g.p,.int .u64 id].toArray w fun e w'=>∃d1 d2 d',Lay d d1 m 257 (n-1) (fun x=>Bh.enc 0 0 0 (257+x))∧Lay d1 d2 m 64 16 (fun x=>(J3 1 zr8).getD x 0)∧Lay d2 d' m 0 8 (fun x=>(YL n id).getD x 0)∧e= .returned (.int .i64 0)∧Heap w (ids (Dy g d)) (Dy g d') w':=by
 have H:=IJ hE
 have hcl:=hD.len
 generalize ids (Dy g d)=I at*
 have hGR:=fun(W:World)=>agR (n:Int) W Y
 rw[Su.F7 n Y Y]at hGR
 have hGW:=fun(W:World)=>abL (n:Int) W Y
 have hL:=fun{W:World} hE=>Zw g d W hE
 have eL:(d.cache.length:Int)=(n:Int)*512:=Y
 rw[eL]at hL
 have hq:IntKind.i64.wrap ((n:Int)*512/512)=n:=by rw[show(n:Int)*512/512=n by omega];exact wI Y
 have hF:=fun{W:World} hE=>amX (g:=g) (w:=W) hE hD hg Y hn Y
 refine BO 39 func34 O (oM ?_)
 refine AP (Bg O (BL H O (hL (H.Bl 0 O)) (Qq O) fun W1 H=>AV (SI O O Y hq) (AV (FI (YT _) O) (Ei H O afn fun p5 _ H=>En H 0 O O O O O O O He ?_))))
 clear H;refine axS fun _ H=>?_
 refine AO (A8 (AP (uG ?_)))
 refine BL H O (hGR _) (asw O) fun W1 H=>AV (Ea O) (BX O (Bo 15 O (J5 H 0 O O O Ic He) (s_call (ET 15 Aw O) (hGW _) (am1 O) ?_)))
 rintro e W1 ⟨rfl,H'⟩
 refine⟨_,rfl,?_⟩
 have H:=H.same H';clear H'
 refine Bo 15 O (Ls O) (s_call (ET 15 Aw O) (hL (H.Bl 1 O)) (Qq O) ?_)
 rintro e W1 ⟨rfl,H'⟩
 refine⟨_,rfl,?_⟩
 have H:=H.same H';clear H'
 refine Bo 15 O (Dc O O Y) (gQ ?_)
 refine A8 (AP (Bg O (uG ?_)))
 refine s_call O (hF (H.Bl 1 O)) (ati O) ?_
 rintro e W1 ⟨d1,hy1,rfl,H'⟩
 refine⟨_,rfl,?_⟩
 have H:=H.CX 1 rfl H';clear H';simp only[Bv]at H
 refine AY O (AO (qw ?_))
 have hwr:=hy1.D.wr (a:=64) Y (ws:=J3 1 zr8) fun i _=>adJ (apy 1 zr8 ⟨Y,Y⟩) i
 obtain⟨d2,e2,hy2⟩:=hwr
 have hT:=fun{W:World} hE=>aow g d1 m W hE hy1.D.I hg Y
 change∀{W:World},_→Calls prog 102 [ptr g.p].toArray W fun e w'=>e= .returned (.int .i64 (Nv.wr d1 m 64 (J3 1 zr8)).2)∧Heap W (ids (Dy g d1)) (Dy g (Nv.wr d1 m 64 (J3 1 zr8)).1) w' at hT
 rw[e2]at hT
 have hl2:=hy2.D.len
 have Xh:=fun{W:World} hE=>ajJ g d2 m (n:Int) id W hE hy2.D.I hy2.D.L hg Y Y hid Y
 obtain⟨d3,e3,hp3⟩:=(hy2.D.WZ Y (fun i=>ah' n id Y hid i) 8 Y).D.persisted (a:=0) (n:=8) Y
 have e3':(Nv.persist (Nv.WZ d2 (YL n id) 8) m 0 8).1=d3:=by rw[show Nv.persist (Nv.WZ d2 (YL n id) 8) m 0 8=(d3,0)from e3]
 rw[e3']at Xh
 refine DF (Bg O (s_call O (hT (H.Bl 1 O)) (atl O) ?_))
 rintro e W1 ⟨rfl,H'⟩
 refine⟨_,rfl,?_⟩
 have H:=H.CX 1 rfl H';clear H';simp only[Bv]at H
 refine vH ?_
 refine AP (Bg O (BI O QU (fV ?_)))
 refine AQ O (AV (FI (aj' _ _) O) (s_call O (Xh (H.Bl 1 O)) (ato O) ?_))
 rintro e W1 ⟨rfl,H'⟩
 refine⟨_,rfl,?_⟩
 have H:=H.CX 1 rfl H';clear H';simp only[Bv]at H
 refine eu ?_
 exact⟨d1,d2,d3,hy1,hy2,(hy2.D.WZ Y (fun i=>ah' n id Y hid i) 8 Y).lay hp3,rfl,Hr H.drop⟩
end
end
end
section
section
open Go.RowKit
section
variable{P:Program}{ops:Array Oper}{rest:List Oper}{n:Sz}{k:Nat}{f:Nat→Value}{W w0:World}{F:List Nat}{L:List FU}{Q:Exit→Act→World→Prop}{ty:TypeId}{pos:String}{af:Array Edge}{g:Option (Nat×Bool)}{x y s:Operand}{v u:Value}{t e:TypeId}{dst:Option Tmp}
theorem aqn{p o l c:Nat}{lo hi:Operand}{i m:Nat}{k1 k2:IntKind}{a b:Int}(hx:ev n f x= .slice (some ⟨p,o,none⟩) l c)(hl:ev n f lo= .int k1 a)(hh:ev n f hi= .int k2 b)(ha:a=(i:Int))(hb:b=(i:Int)+1)(hic:i<c)(h:P.underlying t=some (.slice e))(hm:∀W,(Go.sizeOf e).run P W= .ok m W):
 (execOp (ev n f) ⟨dst,.slice t x (some lo) (some hi) none,ty,pos,af,g⟩).run P W= .ok (.value (.slice (some ⟨p,o+i*m,none⟩) 1 (c-i))) W:=by
 have h1:=aty (P:=P) (W:=W) (dst:=dst) (ty:=ty) (pos:=pos) (af:=af) (g:=g) (i:=i) (j:=i+1) hx hl hh ha Y Y h hm
 rw[h1,if_neg Y,show i+1-i=1 by omega]
theorem arH{p l c:Nat}{lo hi:Operand}{i m:Nat}{k1 k2:IntKind}{a b:Int}(hx:ev n f x= .slice (some ⟨p,0,none⟩) l c)(hl:ev n f lo= .int k1 a)(hh:ev n f hi= .int k2 b)(ha:a=(i:Int))(hb:b=(i:Int)+1)(hic:i<c)(h:P.underlying t=some (.slice e))(hm:∀W,(Go.sizeOf e).run P W= .ok m W):
 (execOp (ev n f) ⟨dst,.slice t x (some lo) (some hi) none,ty,pos,af,g⟩).run P W= .ok (.value (.slice (some ⟨p,i*m,none⟩) 1 (c-i))) W:=by
 have:=aqn (P:=P) (W:=W) (dst:=dst) (ty:=ty) (pos:=pos) (af:=af) (g:=g) hx hl hh ha hb hic h hm
 rw[this,EH]
theorem avS{d2:Operand}{t1:TypeId}{p q r i c1 c2:Nat}{hs:List Ob.H3}{h3:Ob.H3}{rs:List Value}(H:Heap w0 F L W)(j:Nat)(hw:Region.wanted ⟨some k,.call ⟨.builtin .copy,#[d2,y],#[t,t1]⟩,ty,pos,af,g⟩ (yl n f ops)=true)
 (hd:ev n f d2= .slice (some ⟨p,i*3,none⟩) 1 c1) (hsr:ev n f y= .slice (some ⟨q,r,none⟩) 1 c2) (hj:L[j]? =some (hrow p hs rs)) (hr:Reads (fun v:Value=>v) W q r (Ob.hcell h3)) (hi:i<hs.length) (ht:P.underlying t=some (.slice e)) {z0:Value} {bytes:Nat} (hin:Inf P e z0 3 bytes)
 (h:∀W',Heap w0 F (L.set j (hrow p (hs.set i h3) rs)) W'→SL P ops Q rest n (upd f k (.int .i64 1)) W'):SL P ops Q (⟨some k,.call ⟨.builtin .copy,#[d2,y],#[t,t1]⟩,ty,pos,af,g⟩::rest) n f W:=by
 obtain⟨ii,hii,_,hsz,_⟩:=hin.ex
 have hg:=H.OC j hj
 have e3:(Ob.hcell h3).length=3:=rfl
 have hld:=run_loadCells_list (P:=P) W ⟨q,r,none⟩ (Ob.hcell h3) (fun a u ha=>by rw[add_plain];exact hr a u ha)
 have hst:=run_storeCells_at P p (i*3) 209 (Ob.hcell h3) 0 (hcs hs++rs).toArray W hg (by simp only[Jq,Cj,VG,e3];omega) (fun v hv=>by
  simp only[Ob.hcell,Dh,Gx,or_false]at hv
  rcases hv with rfl|rfl|rfl<;>rfl)
 simp only[Kt]at hst
 have hrun:(Builtin.copy_ #[t,t1] ty #[.slice (some ⟨p,i*3,none⟩) 1 c1,.slice (some ⟨q,r,none⟩) 1 c2]).run P W= .ok (goInt (1:Nat)) (W.setRow p ((hcs hs++rs).toArray.toList.take (i*3)++Ob.hcell h3++(hcs hs++rs).toArray.toList.drop (i*3+(Ob.hcell h3).length)).toArray):=by
  have hi3:ii.size=3:=hsz
  rw[e3]at hld
  simp[Builtin.copy_,run_underlying ht,Builtin.lenOf,Builtin.firstCells,sizeOf,typeInfo,hii,hi3,hld,hst]
 have H2:=H.ahL (vs:=Ob.hcell h3) (o:=i*3) j hj
 refine Hu O hw (by simp only[execOp,resolve,invoke,builtin,Fj,DJ,Ef,hd,hsr,Sem.run_bind,Sem.run_pure,Result.andThen_ok,hrun];rfl) (h _ ?_)
 rw[e3,aeD h3 hi]at H2
 rw[e3,aeD h3 hi]
 exact H2
end
theorem Yr.whole{hs:List Ob.H3}(h:Yr hs)(b:Nat):Ob.whole hs b=false:=by
 unfold Ob.whole
 cases e:hs[b]? with
 |none=>rfl
 |some x=>
  have:=h.kind e
  simp only
  rw[decide_eq_false Y];rfl
def Yp(hs:List Ob.H3)(L:List Int):List Ob.H3:=L.foldl (fun o a=>o.set (a/512).toNat (hs.getD (a/512).toNat (0,0,0))) (List.replicate hs.length (0,0,0))
theorem aaP(hs:List Ob.H3)(L:List Int)(a:Int):Yp hs (L++ [a])=(Yp hs L).set (a/512).toNat (hs.getD (a/512).toNat (0,0,0)):=by
 unfold Yp;rw[Q9];rfl
theorem Qi(hs:List Ob.H3)(L:List Int):(Yp hs L).length=hs.length:=by
 rw[←PS L]
 induction L.reverse with
 |nil=>simp[Yp]
 |cons a r ih=>rw[Rl,aaP,Hz,ih]
theorem VY{hs:List Ob.H3}(L:List Int){b:Nat}(hb:b<hs.length):(Yp hs L)[b]? =some (if∃a∈L,(a/512).toNat=b then hs.getD b (0,0,0)else(0,0,0)):=by
 rw[←PS L]
 induction L.reverse with
 |nil=>simp[Yp,hb]
 |cons a r ih=>
  rw[Rl,aaP,EJ]
  split
  ·rename_i e
   rw[Qi,if_pos Y,if_pos ⟨a,J,e⟩,e]
  ·rename_i e
   rw[ih]
   congr 1
   have:(∃x∈r.reverse,(x/512).toNat=b)↔∃x∈r.reverse++ [a],(x/512).toNat=b:=by
    constructor
    ·rintro⟨x,h1,h2⟩;exact⟨x,CO _ h1,h2⟩
    ·rintro⟨x,h1,h2⟩
     rcases Ci.1 h1 with h1|h1
     ·exact⟨x,h1,h2⟩
     ·rw[Bz.1 h1]at h2;exact absurd h2 e
   simp only[this]
theorem arW(n q o c:Nat)(hs:List Ob.H3)(w:World)(hS:KG w [] (some ⟨q,o,none⟩) hs)(hl:hs.length=n)(hn:2≤n∧n≤1000)(hc:n≤c)(hB:Yr hs)(LA:Option Addr)(ln lc:Nat)(l:List Int)(hSl:I5 (Value.int .i64) w [] LA l)(hll:l.length=ln)(hln:ln≤1000000)(hlb:∀a∈l,512≤a∧a<512*n):
 Calls prog 115 [.agg [.int .i64 n].toArray,.slice (some ⟨q,o,none⟩) n c,.slice LA ln lc].toArray w fun e w'=>∃p rs,e= .returned (.slice (some ⟨p,0,none⟩) n n)∧Heap w [] [hrow p (Yp hs l) rs] w':=by
 have H:=Heap.nil w
 refine BO 57 func115 O (AP (D9 H O O fun p3 _ H=>EM O (AO (AP (Dz O (Eb O underlying128 (aql (Value.int .i64) 0 3 (m:=n) H O O O Y Y Y underlying128 Jf O Y ?_)))))))
 intro p _ H';clear H;have H:=H';clear H'
 refine EM O (AO (sS ?_))
 refine xH ?_
 obtain⟨rs,H⟩:=H.ahZ (by rw[Dn];omega)
 have e0:Yp hs (l.take 0)=List.replicate n (0,0,0):=by rw[←hl];rfl
 rw[←afc,←e0]at H
 replace H:Heap w [] [hrow p (Yp hs (l.take 0)) rs,_] _:=H
 refine EO (fun z f W=>∃(i:Nat),i≤ln∧z=ln-i∧f 1= .slice (some ⟨q,o,none⟩) n c∧f 3=ptr p3∧f 7= .slice (some ⟨p,0,none⟩) n n∧f 17= .slice LA ln lc∧f 18= .int .i64 ln∧f 19= .int .i64 i∧Heap w [] [hrow p (Yp hs (l.take i)) rs,blk p3 [.int .i64 n] 79] W) ln ⟨0,Y,rfl,rfl,rfl,rfl,rfl,rfl,rfl,H⟩ ?_
 clear H
 rintro z f W ⟨i,hi,rfl,f1,f3,f7,f17,f18,f19,H⟩
 obtain⟨f,rfl⟩:=XC f1 f3 f7 f17 f18 f19
 clear f1 f3 f7 f17 f18 f19
 by_cases hin:i<ln
 ·obtain⟨x,hx⟩:∃x,l[i]? =some x:=⟨_,Ba Y⟩
  have hxb:=hlb x (BP hx)
  obtain⟨r,or_,rfl,hrI,hrd⟩:=hSl Y
  have cx:=hrd _ _ hx
  obtain⟨b,hb⟩:=BR (show 0≤x/512 by omega)
  have hbn:1≤b∧b<n:=Y
  have hBo:=fun(W:World)=>acJ (n:Int) x W Y Y
  rw[show JF (n:Int) x=(b:Int)by unfold JF;rw[if_pos Y,hb]]at hBo
  have hWh:=fun{W:World} (h:Only [] w W)=>amH (some ⟨q,o,none⟩) n c hs b W (hS.later h J) hl Y Y (ahm hB)
  rw[hB.whole b,show Ob.YC hs b=0 by unfold Ob.YC;rw[hB.whole b];rfl]at hWh
  obtain⟨h3,hh3⟩:∃h,hs[b]? =some h:=⟨_,Ba Y⟩
  have hrc:∀{W:World},Only [] w W→Reads (fun v:Value=>v) W q (o+b*3) (Ob.hcell h3):=fun{W} hO=>by
   obtain⟨q',o',e,hq',hr⟩:=hS Y
   injection e with e
   injection e with e1 e2
   subst e1;subst e2
   exact(hr b h3 hh3).later hO hq'
  have hk:(Yp hs (l.take i)).length=n:=by rw[Qi];exact hl
  have hkn:(Yp hs (l.take i)).set b h3=Yp hs (l.take (i+1)):=by
   rw[←KT hx,aaP,hb,BJ,BN,hh3];rfl
  refine aB ?_
  refine lC ?_
  refine AV (Oe H O cx hrI FM) (AY O (AO (AP (ou ?_))))
  refine BL H O (hBo _) (Wq O) fun W1 H=>bV ?_
  refine Bo 28 O (Gm O) (Bo 28 O (rms O) (Bo 28 O (Gw O underlying128) (Bo 28 O (Fz O O Y) (gQ ?_))))
  refine oM ?_
  refine A8 (AP (Dz O (AQ O (BL H O (hWh H.only) (agb O) fun W1 H=>aF ?_))))
  refine AO (AP (BX O (dK ?_)))
  refine G5 mixed ?_;replace H:=H.drew
  refine EC 0 O O O (fun _ hS=>Cc (v:= .slice _ _ _) O) trivial (EC 1 O O O (fun _ hS=>Cc (v:= .int _ _) O) trivial (EC 2 O O O (fun _ hS=>Cc (v:= .int _ _) O) trivial (EC 3 O O O (fun _ hS=>Cc (v:= .int _ _) O) trivial (EC 4 O O O (fun _ hS=>Dq O O (wI Y)) trivial (EC 5 O O O (fun _ hS=>arH (i:=b) O O O O O Y underlying128 Eu) trivial (EC 6 O O O (fun _ hS=>Cc (v:= .slice _ _ _) O) trivial (EC 7 O O O (fun _ hS=>Cc (v:= .int _ _) O) trivial (EC 8 O O O (fun _ hS=>Cc (v:= .int _ _) O) trivial (EC 9 O O O (fun _ hS=>Cc (v:= .int _ _) O) trivial (EC 10 O O O (fun _ hS=>Dq O O (wI Y)) trivial (EC 11 O O O (fun _ hS=>aqn (i:=b) O O O O O Y underlying128 Eu) trivial (BD 12 O (avS (i:=b) H 0 O O O O (hrc H.only) Y underlying128 Jf ?_)))))))))))))
  clear H;intro _ H
  simp only[Bv]at H
  refine tu ?_
  exact⟨_,_,Y,rfl,i+1,Y,rfl,rfl,rfl,rfl,rfl,rfl,rfl,by rw[←hkn];exact H⟩
 ·obtain rfl:i=ln:=Y
  rw[show l.take i=l by rw[←hll];exact F9]at H
  refine oh ?_
  refine Dz O (rW ?_)
  exact⟨p,rs,rfl,H.drops (A:=[_])⟩
end
end
section
section
open Go.RowKit
theorem asg{f:Nat→Value}{k1 k2 k3 k4 k5 k6 k7:Nat}{v1 v2 v3 v4 v5 v6 v7:Value}(h1:f k1=v1)(h2:f k2=v2)(h3:f k3=v3)(h4:f k4=v4)(h5:f k5=v5)(h6:f k6=v6)(h7:f k7=v7):∃g,f=upd (upd (upd (upd (upd (upd (upd g k1 v1) k2 v2) k3 v3) k4 v4) k5 v5) k6 v6) k7 v7:=⟨f,by rw[upd_same h1,upd_same h2,upd_same h3,upd_same h4,upd_same h5,upd_same h6,upd_same h7]⟩
def ahq(ks:List Ob.H3)(b:Nat):Int:=Bh.enc (ks.getD b (0,0,0)).1 (ks.getD b (0,0,0)).2.1 (ks.getD b (0,0,0)).2.2 (256+(b:Int))
theorem aoD{g:Geo}{d:Nv.D}{m n p1 c1 p2 c2:Nat}{hs ks:List Ob.H3}{r1 r2:List Value}{w:World}(hE:Dj [grp (Dy g d),hrow p1 hs r1,hrow p2 ks r2] w)(hD:Dv d m)(hg:Q5 g m)(hm:m≤100000)(hn:2≤n∧n≤256)(hmn:512≤8*m)(hl:hs.length=n)(hk:ks.length=n)
 (hd:aer d.cache hs) (hkr:∀(b:Nat) (h:Ob.H3),ks[b]? =some h→Bh.right h.1 h.2.1 h.2.2=true):
 Calls prog 114 [ptr g.p,.agg [.int .i64 n].toArray,.slice (some ⟨p1,0,none⟩) n c1,.slice (some ⟨p2,0,none⟩) n c2].toArray w fun e w'=>∃d',Lay d d' m 257 (n-1) (fun x=>ahq ks (1+x))∧e= .returned (.int .i64 0)∧Heap w (ids [grp (Dy g d),hrow p1 hs r1,hrow p2 ks r2]) [grp (Dy g d'),hrow p1 hs r1,hrow p2 ks r2] w':=by
 have H:=Heap.start hE
 generalize ids [grp (Dy g d),hrow p1 hs r1,hrow p2 ks r2]=I at*
 refine BO 50 func114 O (AP (D9 H O O fun p5 _ H=>AY O (AO (uV ?_))))
 refine vT ?_
 refine EO (fun z f W=>∃(b:Nat) (d1:Nv.D) (q:Bool),1≤b∧b≤n∧z=n-b∧Wri d d1 m 257 (b-1) (fun x=>ahq ks (1+x))∧(q=false→d1=d)∧f 0=ptr g.p∧f 2= .slice (some ⟨p1,0,none⟩) n c1∧f 3= .slice (some ⟨p2,0,none⟩) n c2∧f 5=ptr p5∧f 9= .bool q∧f 10= .int .i64 b∧Heap w I [grp (Dy g d1),hrow p1 hs r1,hrow p2 ks r2,blk p5 [.int .i64 n] 79] W) (n-1) ⟨1,d,false,Y,Y,rfl,⟨hD,fun x h=>Y,fun x _=>rfl,fun j _=>rfl⟩,fun _=>rfl,rfl,rfl,rfl,rfl,rfl,rfl,H.order [1,2,3,0] O O⟩ ?_
 clear H
 rintro z f W ⟨b,d1,q,hb1,hb,rfl,hw,hq,f0,f2,f3,f5,f9,f10,H⟩
 obtain⟨f,rfl⟩:=XC f0 f2 f3 f5 f9 f10
 clear f0 f2 f3 f5 f9 f10
 by_cases hlt:b<n
 ·obtain⟨⟨h1,h2,h3⟩,hh⟩:∃h,hs[b]? =some h:=⟨_,Ba Y⟩
  obtain⟨⟨k1,k2,k3⟩,hkk⟩:∃h,ks[b]? =some h:=⟨_,Ba Y⟩
  have hke:ahq ks b=Bh.enc k1 k2 k3 (256+(b:Int)):=by unfold ahq;rw[BN,hkk];rfl
  by_cases he:h1=k1∧h2=k2∧h3=k3
  ·obtain⟨rfl,rfl,rfl⟩:=he
   refine iQ ?_
   refine Dz O (iC ?_)
   refine BZ (fun _ H=>afG (q:=true) O O Aw Aw Aw Aw underlying3 underlying3 underlying3 (decide_eq_true ⟨rfl,rfl,rfl⟩)) (Iy ?_)
   clear H;intro _ H
   refine AX (EF O (Eo (CY (Fv (AX (dN ?_))))))
   refine⟨_,_,?_,rfl,b+1,d1,q,Y,Y,rfl,⟨hw.D,fun x hx=>?_,fun x hx=>hw.o x Y,fun j hj=>hw.k j fun x h3 h4=>hj x h3 Y⟩,hq,rfl,rfl,rfl,rfl,rfl,rfl,H⟩
   ·omega
   ·by_cases e:x=b-1
    ·subst e
     rw[hw.o _ Y,show 1+(b-1)=b by omega,hke,←(hd.at_ b _ hb1 hh).2]
     congr 1
     omega
    ·exact hw.i x Y
  ·have XG:=fun(W:World)=>Wi (n:Int) (b:Int) W Y Y
   have XR:=fun(W:World)=>anb (b:Int) k1 k2 k3 W Y (hkr b _ hkk)
   have heb:=Bh.abr k1 k2 k3 (256+(b:Int))
   obtain⟨d2,e2,h2_⟩:=hw.D.stored (a:=256+b) Y heb
   have hg2:=h2_.get Y hw.D.len
   have eai:((256+b:Nat):Int)=256+(b:Int):=Y
   have hSt:=fun{W:World} hE=>Ua (g:=g) (w:=W) hE hw.D hm e2
   rw[eai]at hSt
   rw[←hke]at XR hSt
   refine iQ ?_
   refine Dz O (iC ?_)
   refine BZ (fun _ H=>afG (q:=false) O O Aw Aw Aw Aw underlying3 underlying3 underlying3 (decide_eq_false he)) (Iy ?_)
   clear H;intro _ H
   refine AX (DC O (Bj (AX (uV ?_))))
   refine A8 ?_
   refine Gl (fun f W=>f 0=ptr g.p∧f 2= .slice (some ⟨p1,0,none⟩) n c1∧f 3= .slice (some ⟨p2,0,none⟩) n c2∧f 5=ptr p5∧f 9= .bool true∧f 10= .int .i64 b∧f 11= .int .i64 0∧Heap w I [grp (Dy g d2),hrow p1 hs r1,hrow p2 ks r2,blk p5 [.int .i64 n] 79] W) ?_ ?_
   ·refine G5 mixed ?_;replace H:=H.drew
    refine xg ?_
    refine CZ 2 O O O (fun _ hS=>Cc (v:= .int _ _) O) trivial (qB ?_)
    refine CZ 5 O O O (fun _ hS=>Cc (v:= .slice _ _ _) O) trivial (qy ?_)
    refine CZ 7 O O O (fun _ hS=>QX (i:=b) O O Y Y underlying128 Eu) trivial ?_
    refine Et 1 8 ?_ ?_
    ·refine CB O (Dw H 3 O O O Ic He (ak ?_))
     refine Et 3 8 ?_ ?_
     ·refine CB O (BL H O (XG _) (MO O) fun W1 H=>rY ?_)
      refine AV (agx H 2 O O hkk Ir Eu) (sU ?_)
      refine BL H O (XR _) (Oo O) fun W1 H=>vM ?_
      rintro e W1 ⟨rfl,H'⟩
      refine⟨_,rfl,?_⟩
      have H:=H.CX 0 rfl H';clear H';simp only[Bv]at H
      refine qJ ?_
      exact⟨rfl,rfl,rfl,rfl,rfl,rfl,rfl,H⟩
     ·refine CB O (AV (agx H 2 O O hkk Ir Eu) (lY ?_))
      refine BL H O (XG _) (MO O) fun W1 H=>sU ?_
      refine BL H O (XR _) (Oo O) fun W1 H=>vM ?_
      rintro e W1 ⟨rfl,H'⟩
      refine⟨_,rfl,?_⟩
      have H:=H.CX 0 rfl H';clear H';simp only[Bv]at H
      refine qJ ?_
      exact⟨rfl,rfl,rfl,rfl,rfl,rfl,rfl,H⟩
    ·refine CB O (AV (agx H 2 O O hkk Ir Eu) (ak ?_))
     refine BD 1 O (Dw H 3 O O O Ic He (lY ?_))
     refine BL H O (XG _) (MO O) fun W1 H=>sU ?_
     refine BL H O (XR _) (Oo O) fun W1 H=>vM ?_
     rintro e W1 ⟨rfl,H'⟩
     refine⟨_,rfl,?_⟩
     have H:=H.CX 0 rfl H';clear H';simp only[Bv]at H
     refine qJ ?_
     exact⟨rfl,rfl,rfl,rfl,rfl,rfl,rfl,H⟩
   clear H
   rintro f W ⟨f0,f2,f3,f5,f9,f10,f11,H⟩
   obtain⟨f,rfl⟩:=asg f0 f2 f3 f5 f9 f10 f11
   clear f0 f2 f3 f5 f9 f10 f11
   refine AX (aj ?_)
   refine nY ?_
   refine⟨_,_,?_,rfl,b+1,d2,true,Y,Y,rfl,⟨h2_.D,fun x hx=>?_,fun x hx=>?_,fun j hj=>?_⟩,fun h=>(by cases h),rfl,rfl,rfl,rfl,rfl,rfl,H⟩
   ·omega
   ·rw[hg2]
    split
    ·rename_i e
     rw[show 1+x=b by omega,hke]
    ·exact hw.i x Y
   ·rw[hg2,if_neg Y]
    exact hw.o x Y
   ·have ne:j≠(256+b)/8:=fun ee=>hj (256+b) Y Y ee.symm
    rw[h2_.k j ne]
    exact hw.k j fun x h3 h4=>hj x h3 Y
 ·obtain rfl:b=n:=Y
  cases q with
  |false=>
   have HQ:=H
   obtain rfl:=hq rfl
   refine ji ?_
   refine og ?_
   refine A8 (AP (BX O (AV (Ib O) (gG ?_))))
   exact⟨d1,⟨hw.D,hw.i,hw.o,fun j hj=>hj⟩,rfl,HQ.BQ [0,1,2] rfl rfl⟩
  |true=>
   have XG:∀W:World,_:=fun(W:World)=>Wi (b:Int) 1 W Y Y
   rw[show(256:Int)+1=257 from rfl]at XG
   obtain⟨d2,e2,h2⟩:=hw.D.persisted (a:=257) (n:=b-1) Y
   have e1:((b-1:Nat):Int)=(b:Int)-1:=Y
   have hPe:=fun{W:World} hE=>V4 (g:=g) (w:=W) hE hw.D hg hm e2
   rw[e1]at hPe
   refine ji ?_
   refine og ?_
   refine ru ?_
   refine Bg O (Dw H 3 O O O Ic He (BL H O (XG _) (MO O) fun W1 H=>Dz O (Eb O underlying128 (mD ?_))))
   refine s_call O (hPe (H.Bl 0 O)) (Uz O) ?_
   rintro e W1 ⟨rfl,H'⟩
   refine⟨_,rfl,?_⟩
   have H:=H.CX 0 rfl H';clear H';simp only[Bv]at H
   refine eu ?_
   exact⟨d2,hw.lay h2,rfl,H.BQ [0,1,2] rfl rfl⟩
end
end
section
section
open Go.RowKit
structure KR (d:Nv.D) (m n:Nat) (id:Int) (hs:List Ob.H3) (k:Nat) (E:Int) (R:List Int):Prop where
 dv:Dv d m
 hm:m=64*n
 n2:2≤n∧n≤256
 hid:Ui id
 su:gets d.cache 8=YL n id
 hd:aer d.cache hs
 hl:hs.length=n
 sm:Yr hs
 ck:UR (EN d.cache 64 16) (EN d.cache 128 16)=(k:Int)
 ce:chE (EN d.cache 64 16) (EN d.cache 128 16)=E
 cr:chR (EN d.cache 64 16) (EN d.cache 128 16)=R
 k1:k=0∨k=1
 E1:1≤E∧E≤1000
 R8:Rts R
theorem KR.len{d:Nv.D}{m n:Nat}{id:Int}{hs:List Ob.H3}{k:Nat}{E:Int}{R:List Int}(h:KR d m n id hs k E R):d.cache.length=512*n:=by
 have:=h.dv.len;have:=h.hm;omega
theorem KR.Rb{d:Nv.D}{m n:Nat}{id:Int}{hs:List Ob.H3}{k:Nat}{E:Int}{R:List Int}(h:KR d m n id hs k E R):∀r∈R,0≤r∧r<131072:=fun r hr=>by
 have:=h.R8.2;unfold St.okR at this;have:=this r hr;omega
section
variable{g:Geo}{d:Nv.D}{m n k:Nat}{id E:Int}{hs:List Ob.H3}{R:List Int}{A:Int→Prop}{w:World}
theorem ai5(hE:Dj (Dy g d) w)(hk:KR d m n id hs k E R)(hG:Tr.Good (Ob.pl n d.cache hs) (Ob.ptrs d.cache) R A)(B:Option Addr)(c:Nat)(hS:KG w [] B hs)(FA:Option Addr)(fc:Nat)(hF:I5 (Value.int .i64) w [] FA R):
 Calls prog 174 [ptr g.p,.agg [.int .i64 n].toArray,.slice B n c,.slice FA 8 fc].toArray w fun e w'=>∃L A' c',Tr.aiH (Ob.pl n d.cache hs) (Ob.ptrs d.cache) R L∧e= .returned (.tuple [.slice A' L.length c',.int .i64 0].toArray)∧Heap w [] [Ec 1 (.slice A' L.length c') L.length (L.map (Value.int .i64)) 3] w':=by
 have hl:=hk.len
 have hn:=hk.n2
 have hRb:=hk.Rb
 refine(aja hE hk.dv.U Y hS hk.hl Y (ahm hk.sm) Y FA 8 fc R hF hk.R8.1 Y (fun a ha=>⟨by have:=hRb a ha;omega,by have:=hRb a ha;omega⟩)).mono ?_
 rintro e w' ⟨N,s1,rfl,h1,h2,h3⟩
 obtain⟨hb,hL⟩:=Tr.aks hG h1 h2 (UZ _)
 rcases h3 with⟨h4,_⟩|⟨_,A',c',rfl,H⟩
 ·exact absurd hb h4
 ·have hlen:=(UZ (Tr.steps (Ob.pl n d.cache hs) (Ob.ptrs d.cache) (Tr.Gp (Ob.pl n d.cache hs) Tr.s0 R R.length) N).seen).length_eq
  rw[←hlen]at H⊢
  exact⟨_,A',c',hL,rfl,H⟩
theorem aoZ(hE:Dj (Dy g d) w)(hk:KR d m n id hs k E R):
 Calls prog 62 [ptr g.p].toArray w fun e w'=>∃t,e= .returned (.tuple #[ptr t,.int .i64 0])∧Heap w [] [blk t (Me g.p E R k R) 220] w':=by
 refine(avm g d w hE hk.dv.U).mono ?_
 rw[hk.ck,hk.ce,hk.cr]
 rintro e w' (⟨h,_⟩|⟨_,h⟩)
 ·have:=hk.k1;omega
 ·exact h
theorem aod(hE:Dj (Dy g d) w)(hk:KR d m n id hs k E R):
 Calls prog 172 [ptr g.p].toArray w fun e w'=>e= .returned (.tuple #[.agg [.int .i64 n,.int .u64 id].toArray,.int .i64 0])∧Only [] w w':=by
 have hn:=hk.n2
 have hl:=hk.len
 have h:=auA g d n id 0 w hE (by rw[hk.su];exact amV n id Y hk.hid)
 rw[if_pos ⟨rfl,Y⟩,if_pos ⟨rfl,Y⟩]at h
 exact h
theorem asl(hE:Dj (Dy g d) w)(hk:KR d m n id hs k E R)(hG:Tr.Good (Ob.pl n d.cache hs) (Ob.ptrs d.cache) R A):
 Calls prog 113 [ptr g.p].toArray w fun e w'=>∃t p c rs L LA lc,Tr.aiH (Ob.pl n d.cache hs) (Ob.ptrs d.cache) R L∧n≤c∧e= .returned (.tuple #[.agg [.int .i64 n,.int .u64 id,.int .i64 n,.pointer none,ptr t,.slice LA L.length lc].toArray,.slice (some ⟨p,0,none⟩) n c,.int .i64 0])∧
  Heap w [] [blk t (Me g.p E R k R) 220,hrow p hs rs,Ec 1 (.slice LA L.length lc) L.length (L.map (Value.int .i64)) 3] w':=by
 have HR:=Heap.start hE
 have H:=Heap.nil w
 have hl:=hk.len
 have hn:=hk.n2
 have hSu:=fun{W:World} (h:Only [] w W)=>aod (HR.same h).ents hk
 have hBk:=fun{W:World} (h:Only [] w W)=>amv g d n hs W (HR.same h).ents hk.dv.U hk.hd hk.hl Y
 have hRo:=fun{W:World} (h:Only [] w W)=>aoZ (HR.same h).ents hk
 have hCl:=fun{W:World} (h:Only [] w W)=>ai5 (HR.same h).ents hk hG
 have hLa:=fun{t:Nat} {W:World} hE=>ae2 t g.p E k R R W hE hk.R8.1 hk.R8.1
 obtain⟨v0,v1,v2,v3,v4,v5,v6,v7,hR⟩:=Nu hk.R8.1
 have hRm:(R.map (Value.int .i64))=[.int .i64 v0,.int .i64 v1,.int .i64 v2,.int .i64 v3,.int .i64 v4,.int .i64 v5,.int .i64 v6,.int .i64 v7]:=by rw[hR];rfl
 rw[hRm]at hLa
 refine BO 65 func113 O (AP (Ei H O aeS fun p2 _ H=>EM O (sZ ?_)))
 refine BL H O (hSu H.only) (asM O) fun W1 H=>gX ?_
 refine Ei H O Xd fun p5 _ H=>En H 0 O O O O O O O SY ?_
 clear H;refine axS fun _ H=>?_
 refine vV ?_
 refine AP (BI O Z7 (fV ?_))
 refine AV (FI (YT _) O) (Ei H O afn fun p7 _ H=>En H 0 O O O O O O O He ?_)
 clear H;refine axS fun _ H=>?_
 refine AO (AP (Bg O (uG ?_)))
 refine s_call O (hBk H.only) (apC O) ?_
 rintro e W1 ⟨p,c,rs,rfl,hc,H'⟩
 refine⟨_,rfl,?_⟩
 have H:=H.more H';clear H';simp only[Bv]at H
 refine Dt O (nM ?_)
 refine CV O O (EM O (kG ?_))
 refine gI ?_
 refine AP (Bg O (s_call O (hRo H.only) (awI O) ?_))
 rintro e W1 ⟨t,rfl,H'⟩
 refine⟨_,rfl,?_⟩
 have H:=H.more H';clear H';simp only[Bv]at H
 refine fJ ?_
 refine AO (gI ?_)
 refine AP (Bg O (BL H O (hLa H.part) (as3 O) fun W1 H=>Ei H O U0 fun p11 _ H=>vw ?_))
 clear H;refine axS fun _ H=>?_
 refine AO (A8 ?_)
 refine G5 mixed ?_;replace H:=H.drew
 refine xw ?_
 refine EC 2 O O O (fun _ hS=>Cc (v:= .slice _ _ _) O) trivial (EC 3 O O O (fun _ hS=>aiO O underlying103 Ji Y) trivial (BD 1 O (Dw H 3 O O O Ic He (jd ?_))))
 refine s_call O (hCl H.only _ c (H.al7 2 O) _ 8 (fun _=>⟨p11,0,rfl,J,H.VJ 0 O hRm.symm⟩)) (au4 O) ?_
 rintro e W1 ⟨L,LA,lc,hL,rfl,H'⟩
 refine⟨_,rfl,?_⟩
 have H:=H.more H';clear H';simp only[Bv]at H
 refine ak ?_
 refine EC 5 O O O (fun _ hS=>Cc (v:= .tuple _) O) trivial (EC 6 O O O (fun _ hS=>CQ (v:= .slice _ _ _) O O) trivial (EC 7 O O O (fun _ hS=>CQ (v:= .int _ _) O O) trivial (EC 8 O O O (fun _ hS=>DK (v:= .slice _ _ _) O) trivial (EC 9 O O O (fun _ hS=>DK (v:= .int _ _) O) trivial (CU (AX (gI ?_)))))))
 refine AP (Dw H 5 O O O adk SY (Dw H 4 O O O Ic He (Bg O (Dz O (AV (FI (abW _ _ _ _ _ _ _) O) (Dz O (En H 6 O O O O O O O aaW ?_)))))))
 clear H;refine axS fun _ H=>?_
 refine EM O (xA ?_)
 refine ahD O (JB H 6 O O O akV aaW) (Jt (v:= .slice _ _ _) O) (Jt (v:= .int _ _) O) ?_
 exact⟨t,p,c,rs,L,LA,lc,hL,hc,rfl,H.BQ [2,3,0] rfl rfl⟩
end
end
end
section
section
theorem TQ{c c':List Int}:∀k,(∀x:Nat,x<k→Nv.get c' x=Nv.get c x)→gets c' k=gets c k
 |0,_=>rfl
 |k+1,h=>by rw[gets,gets,TQ k (fun x hx=>h x Y),h k Y]
theorem N8{c c':List Int}{a:Nat}:∀k,(∀x:Nat,x<k→Nv.get c' ((a:Int)+x)=Nv.get c ((a:Int)+x))→EN c' a k=EN c a k
 |0,_=>rfl
 |k+1,h=>by rw[EN,EN,N8 k (fun x hx=>h x Y),h k Y]
theorem ale{c c':List Int}{a:Int}(hl:c'.length=c.length)(h:Nv.get c' a=Nv.get c a):Ob.hd c' a=Ob.hd c a∧Ob.hp c' a=Ob.hp c a∧Ob.hq c' a=Ob.hq c a:=by
 have h1:Ob.hd c' a=Ob.hd c a:=by unfold Ob.hd;rw[hl,h]
 refine⟨h1,?_,?_⟩
 ·unfold Ob.hp;rw[h1,h]
 ·unfold Ob.hq;rw[h1,h]
theorem afh{n:Nat}{c c':List Int}{hs hs':List Ob.H3}{a:Int}(hl:c'.length=c.length)(h:Nv.get c' a=Nv.get c a)(hB:Yr hs)(hB':Yr hs')(hh:hs'[(a/512).toNat]? =hs[(a/512).toNat]?):Ob.pl n c' hs' a=Ob.pl n c hs a:=by
 obtain⟨e1,e2,e3⟩:=ale hl h
 unfold Ob.pl
 rw[e1,hh]
 cases hs[(a/512).toNat]? with
 |none=>rfl
 |some x=>
  simp only
  unfold Ob.agS
  rw[e2,e3,hB.whole,hB'.whole]
section
variable{d d':Nv.D}{m n k:Nat}{id E:Int}{hs:List Ob.H3}{R L:List Int}
theorem Yr.keep(h:Yr hs)(L:List Int):Yr (Yp hs L):=fun x hx=>by
 obtain⟨b,hb,e⟩:=Gg.1 hx
 have hbl:b<hs.length:=by rw[Qi]at hb;exact hb
 have h1:=VY L hbl
 rw[Ba hb]at h1
 injection h1 with h1
 rw[e]at h1
 split at h1
 ·rw[h1,BN,Ba hbl]
  exact h _ (KH _)
 ·exact .inl h1
theorem ant{a:Int}(hl:hs.length=n)(ha:a∈L)(hb:512≤a∧a<512*n):(Yp hs L)[(a/512).toNat]? =hs[(a/512).toNat]? :=by
 have h1:(a/512).toNat<hs.length:=Y
 rw[VY L h1,if_pos ⟨a,ha,rfl⟩,Ba h1,BN,Ba h1]
 rfl
theorem agd(h:KR d m n id hs k E R):∀(b:Nat) (x:Ob.H3),(Yp hs L)[b]? =some x→Bh.right x.1 x.2.1 x.2.2=true:=fun b x hx=>by
 have hbl:b<hs.length:=by
  have:=(BK.1 hx).1
  rw[Qi]at this;exact this
 rw[VY L hbl]at hx
 injection hx with hx
 subst hx
 split
 ·by_cases h0:b=0
  ·subst h0
   rw[BN,h.hd.h0];rfl
  ·have hb:hs[b]? =some (hs.getD b (0,0,0)):=by rw[BN,Ba hbl];rfl
   exact(h.hd.at_ b _ Y hb).1
 ·rfl
theorem KR.keep(h:KR d m n id hs k E R)(hL:∀a∈L,512≤a∧a<512*n)(hy:Lay d d' m 257 (n-1) fun x=>ahq (Yp hs L) (1+x)):KR d' m n id (Yp hs L) k E R:=by
 have hn:=h.n2
 have hl:=h.hl
 have e1:EN d'.cache 64 16=EN d.cache 64 16:=N8 16 fun x hx=>hy.o _ Y
 have e2:EN d'.cache 128 16=EN d.cache 128 16:=N8 16 fun x hx=>hy.o _ Y
 refine⟨hy.D,h.hm,h.n2,h.hid,(TQ 8 fun x hx=>hy.o _ Y).trans h.su,⟨?_,fun b x hb hx=>⟨agd h b x hx,?_⟩⟩,by rw[Qi];exact hl,h.sm.keep L,by rw[e1,e2];exact h.ck,by rw[e1,e2];exact h.ce,by rw[e1,e2];exact h.cr,h.k1,h.E1,h.R8⟩
 ·rw[VY L Y,if_neg]
  rintro⟨a,ha,e⟩
  have:=hL a ha
  omega
 ·have hbl:b<n:=by
   have:=(BK.1 hx).1
   rw[Qi]at this;omega
  have hi:=hy.i (b-1) Y
  rw[show 1+(b-1)=b by omega]at hi
  rw[show(256:Int)+(b:Int)=((257+(b-1):Nat):Int)by omega,hi]
  unfold ahq
  rw[BN,hx]
  simp only[TB]
  congr 1
  omega
end
end
end
section
section
open Go.RowKit
structure Opened (d d':Nv.D) (m n:Nat) (id:Int) (hs:List Ob.H3) (k:Nat) (E:Int) (R L:List Int) (s:IX) (N:Nat):Prop where
 live:Tr.aiH (Ob.pl n d.cache hs) (Ob.ptrs d.cache) R L
 dev:KR d' m n id (Yp hs L) k E R
 o:∀x:Int,512≤x→Nv.get d'.cache x=Nv.get d.cache x
 k:∀j,UU d j=false→UU d' j=false
 al:GK d'.cache s N fun _=>False
 sn:s.n=n
 sh:s.hs=Yp hs L
 nn:N≤256*n
 us:∀a,Ee s.U a=decide (a∈L)
theorem Y2{α:Type}{enc:α→Value}{size:Nat}{w0 W:World}{F:List Nat}{L A B:List FU}(H:Heap w0 F L W){LA:Option Addr}{n c:Nat}{xs:List α}{T:TypeId}(hL:L=A++Ec size (.slice LA n c) n (xs.map enc) T::B):I5 enc W (ids A) LA xs:=fun h0=>by
 subst hL
 obtain⟨b,e,hb,hr⟩:=H.SQ A.length (by rw[Em (BF _),Hw];rfl) h0
 refine⟨b,0,e,fun hm=>?_,hr⟩
 have hnd:=H.nd
 rw[EX,Ep]at hnd
 exact(C9.1 hnd).2.2 b hm b (CO _ hb) rfl
section
variable{g:Geo}{d:Nv.D}{m n k:Nat}{id E:Int}{hs:List Ob.H3}{R:List Int}{A:Int→Prop}{w:World}
theorem arB(M:Nat→Nat)(hMm:∀c,M c<4)(hE:Dj (Dy g d) w)(hg:Q5 g m)(hk:KR d m n id hs k E R)(hG:Tr.Good (Ob.pl n d.cache hs) (Ob.ptrs d.cache) R A):
 Calls prog 50 [ptr g.p].toArray w fun e w'=>∃d' t L LA lc s N,Opened d d' m n id hs k E R L s N∧s.M=M∧e= .returned (.tuple #[.agg [.int .i64 n,.int .u64 id,.int .i64 n,ptr s.pA,ptr t,.slice LA L.length lc].toArray,.int .i64 0])∧
  Heap w (ids (Dy g d)) [grp (TF g d' s),blk t (Me g.p E R k R) 220,Ec 1 (.slice LA L.length lc) L.length (L.map (Value.int .i64)) 3] w':=by
 have H:=IJ hE
 have hl:=hk.len
 have hn:=hk.n2
 have hm:=hk.hm
 have hLk:=fun{W:World} hE=>asl (g:=g) (w:=W) hE hk hG
 generalize ids (Dy g d)=I at*
 refine BO 59 func50 O (AP (Ei H O aeS fun p2 _ H=>sZ ?_))
 refine s_call O (hLk (H.Bl 1 O)) (atF O) ?_
 rintro e W1 ⟨t,p,c,rs,L,LA,lc,hL,hc,rfl,H'⟩
 refine⟨_,rfl,?_⟩
 have H:=H.more H';clear H';simp only[Bv]at H
 refine aV ?_
 refine nM ?_
 refine Ei H O aeS fun p4 _ H=>En H 0 O O O O O O O aaW ?_
 clear H;refine axS fun _ H=>?_
 refine EM O (vV ?_)
 refine A8 (A8 ?_)
 refine Gl (fun f W=>f 0=ptr g.p∧f 2=ptr p2∧f 4=ptr p4∧f 7= .int .i64 0∧∃d',Lay d d' m 257 (n-1) (fun x=>ahq (Yp hs L) (1+x))∧Heap w I [grp (Dy g d'),blk p4 [.int .i64 n,.int .u64 id,.int .i64 n,.pointer none,ptr t,.slice LA L.length lc] 115,blk t (Me g.p E R k R) 220,Ec 1 (.slice LA L.length lc) L.length (L.map (Value.int .i64)) 3,blk p2 [.int .i64 0,.int .u64 0,.int .i64 0,.pointer none,.pointer none,.slice none 0 0] 115] W) ?_ ?_
 ·have hLb:∀a∈L,512≤a∧a<512*(n:Int):=fun a ha=>by have:=Ob.OW (hL.pl a ha);omega
  have hLn:L.length≤512*n:=Tr.PU _ _ hL.nd fun a ha=>by have:=hLb a ha;omega
  have hKp:=fun{W:World} (h1:KG W [] (some ⟨p,0,none⟩) hs) (h2:I5 (Value.int .i64) W [] LA L)=>arW n p 0 c hs W h1 hk.hl Y hc hk.sm LA L.length lc L h2 rfl Y hLb
  have Xh:=fun{q:Nat} {rq:List Value} {W:World} hE=>aoD (g:=g) (d:=d) (m:=m) (n:=n) (p1:=p) (c1:=c) (p2:=q) (c2:=n) (hs:=hs) (ks:=Yp hs L) (r1:=rs) (r2:=rq) (w:=W) hE hk.dv hg Y hn Y hk.hl (by rw[Qi];exact hk.hl) hk.hd (agd hk)
  refine JQ (A:=[_]) mixed H [0] O ?_;replace H:=H.drew
  refine CZ 0 O O O (fun _ hS=>Cc (v:= .pointer _) O) (H.BQ [0] O O) (CZ 1 O O O (fun _ hS=>Cm O aev) (H.BQ [0] O O) (CZ 2 O O O (fun _ hS=>JY hS 0 (vs:=[.int .i64 n]) O O O O Ic He) (H.BQ [0] O O) (CZ 3 O O O (fun _ hS=>Cc (v:= .slice _ _ _) O) (H.BQ [0] O O) (CZ 4 O O O (fun _ hS=>Cm O aev) (H.BQ [0] O O) (CZ 5 O O O (fun _ hS=>JY hS 0 (vs:=[.int .i64 n]) O O O O Ic He) (H.BQ [0] O O) (CZ 6 O O O (fun _ hS=>Cc (v:= .slice _ _ _) O) (H.BQ [0] O O) (CZ 7 O O O (fun _ hS=>Cm O aaf) (H.BQ [0] O O) (CZ 8 O O O (fun _ hS=>DR hS 0 O O O KQ) (H.BQ [0] O O) (BD 9 O (s_call O (hKp (H.al7 2 O) (FB H 3 O)) (avK O) ?_))))))))))
  rintro e W1 ⟨q,rq,rfl,H'⟩
  refine⟨_,rfl,?_⟩
  have H:=H.more H';clear H';simp only[Bv]at H
  refine xu ?_
  refine BD 10 O ?_
  refine s_call O ((by have H2:Heap w I ([_,_,_]++ [_,_,_,_]) _:=H.order [6,3,0,1,2,4,5] O O;exact Xh H2.part)) (atX O) ?_
  rintro e W1 ⟨d',hy,rfl,H'⟩
  refine⟨_,rfl,?_⟩
  have H2:Heap w I ([_,_,_]++ [_,_,_,_]) _:=H.order [6,3,0,1,2,4,5] rfl rfl;have H3:=H2.step H' (fun i hi=>hi);clear H H' H2;simp only[Bv]at H3;have H:Heap w I [_,_,_,_,_,_,_] _:=H3.order [0,3,4,5,6,1,2] rfl rfl;clear H3
  refine xu ?_
  refine CZ 11 O O O (fun _ hS=>DK (v:= .int _ _) O) (H.BQ [1] O O) (CU (Dp ?_))
  exact⟨rfl,rfl,rfl,rfl,d',hy,H.BQ [0,1,2,3,4] rfl rfl⟩
 clear H
 rintro f W ⟨f0,f2,f4,f7,d',hy,H⟩
 obtain⟨f,rfl⟩:=Jj f0 f2 f4 f7
 clear f0 f2 f4 f7
 have hLb:∀a∈L,512≤a∧a<512*(n:Int):=fun a ha=>by have:=Ob.OW (hL.pl a ha);omega
 have hLn:L.length≤512*n:=Tr.PU _ _ hL.nd fun a ha=>by have:=hLb a ha;omega
 have hk':=hk.keep hLb hy
 have hl':=hk'.len
 have hMn:=fun{W:World} hE=>aq6 g d' n (Yp hs L) W hE hk'.dv.U hk'.hd hk'.sm hk'.hl Y
 have hpl:∀a∈L,Ob.pl n d'.cache (Yp hs L) a=true:=fun a ha=>by
  have hb:=hLb a ha
  rw[afh Y (hy.o a Y) hk.sm (hk.sm.keep L) (ant hk.hl ha hb)]
  exact hL.pl a ha
 refine AX (kK ?_)
 refine AP (Bg O (BI O aev (AV (JY H 1 (vs:=[.int .i64 n]) O O O O Ic He) (s_call O (hMn (H.Bl 0 O)) (at6 O) ?_))))
 rintro e W1 ⟨pM,pT,pp,cc,rr,pX,bS,bE,S,E',rfl,hnc,hro,H'⟩
 refine⟨_,rfl,?_⟩
 have H:=H.more H';clear H';simp only[ZM,EL,Ey]at H
 refine fJ ?_
 refine AO (gI ?_)
 refine A8 ?_
 have H2:Heap w I ((grp (Dy g d')::ZM g n pM pT pp (Yp hs L) rr cc pX bS bE S E')++ [Ec 1 (.slice LA L.length lc) L.length (L.map (Value.int .i64)) 3,blk p4 [.int .i64 n,.int .u64 id,.int .i64 n,.pointer none,ptr t,.slice LA L.length lc] 115,blk t (Me g.p E R k R) 220,blk p2 [.int .i64 0,.int .u64 0,.int .i64 0,.pointer none,.pointer none,.slice none 0 0] 115]) _:=H.order [4,0,1,2,3,7,5,6,8] rfl rfl
 have HP:Heap w I [blk p4 [.int .i64 n,.int .u64 id,.int .i64 n,.pointer none,ptr t,.slice LA L.length lc] 115] _:=H.BQ [5] rfl rfl
 clear H
 have hNw:=fun{W:World} hE hS=>aud g d' n pM pT pp (Yp hs L) rr cc pX bS bE S E' W hE hk'.dv.U ⟨hk'.hl,hn,hk'.sm,hk'.hd,hro,Y⟩ LA L.length lc L hS rfl Y hL.nd M hMm hpl
 obtain⟨mE,hmE⟩:∃X,ZM g n pM pT pp (Yp hs L) rr cc pX bS bE S E'=X:=⟨_,rfl⟩
 rw[hmE]at hNw H2
 refine DF (Bg O (Bg O (BI O aaf (AV (DR HP 0 O O O KQ) (s_call O (hNw H2.part (Y2 H2 O)) (au5 O) ?_)))))
 rintro e W1 ⟨s,N,hal,hsn,hsh,hsM,hN,hus,rfl,H'⟩
 refine⟨_,rfl,?_⟩
 have H:=Heap.afj (H2.step H' (fun i hi=>hi));clear H2 HP H';change Heap w I [grp (TF g d' s),_,_,_,_] _ at H
 refine Dt O (vO ?_)
 refine CV O O (BI O aas (Ik (u:= .pointer _) H 2 O O O O O O awd ?_))
 clear H;refine axS fun _ H=>?_
 refine vV ?_
 refine AP (Dw H 2 O O O akV aaW (En H 4 O O O O O O O aaW ?_))
 clear H;refine axS fun _ H=>?_
 refine xA ?_
 refine ND O (JB H 4 O O O akV aaW) (Jt (v:= .int _ _) O) ?_
 exact⟨d',t,L,LA,lc,s,N,⟨hL,hk',fun x hx=>hy.o x Y,hy.k,hal,hsn,hsh,hN,hus⟩,hsM,rfl,H.BQ [0,3,1] rfl rfl⟩
end
end
end
section
section
theorem GK.words{c c':List Int}{s:IX}{N:Nat}{X:Int→Prop}(h:GK c s N X)(hl:c'.length=c.length)(hh:∀x:Int,256≤x→x<512→Nv.get c' x=Nv.get c x)(hu:∀a,Ee s.U a=true→Nv.get c' a=Nv.get c a):GK c' s N X:=by
 refine⟨h.hl,h.n2,h.sm,⟨h.hd.h0,fun b x b1 b2=>?_⟩,h.rn,h.su,h.ul,h.fs,h.fr,by rw[hl];exact h.cl,fun a ha=>?_,h.fm⟩
 ·have h1:=h.hd.at_ b x b1 b2
  have hb:=(BK.1 b2).1
  have h2:=h.hl
  have h3:=h.n2
  exact⟨h1.1,by rw[hh _ Y Y];exact h1.2⟩
 ·rw[afh hl (hu a ha) h.sm h.sm rfl];exact h.us a ha
def RX(c:List Int)(a:Int):Int:=1+Ob.hp c a+Ob.hq c a
theorem GK.obj{c:List Int}{s:IX}{N:Nat}{X:Int→Prop}(h:GK c s N X)(hw:Ob.Qv c){a:Int}(ha:Ee s.U a=true):∃k:Nat,k<32∧Hl s.hs s.n k a∧Ob.hd c a=true∧512≤a∧1≤RX c a∧RX c a≤Cl.words k∧a+Cl.words k≤512*s.n:=by
 obtain⟨h1,h2,k,h3,h4,h5⟩:=(Vl h.sm h.hl a).1 (h.us a ha)
 have hb:=h5.bd h3
 have hp:=Ob.QS hw a
 rw[Ob.aiw hw]at h2 h4
 have hz:1≤1+Ob.hp c a+Ob.hq c a∧1+Ob.hp c a+Ob.hq c a≤256:=by simpa [Cl.ofB]using h2
 have hle:=(Cl.Tf _ hz.1 hz.2).le
 rw[h4]at hle
 exact⟨k,h3,h5,h1,hb.1,by unfold RX;omega,by unfold RX;omega,hb.2⟩
theorem GK.apart{c:List Int}{s:IX}{N:Nat}{X:Int→Prop}(h:GK c s N X)(hw:Ob.Qv c){a b y:Int}(ha:Ee s.U a=true)(hb:Ee s.U b=true)(hne:a≠b)(h1:a≤y∧y<a+RX c a):¬(b≤y∧y<b+RX c b):=by
 intro h2
 obtain⟨k,k1,k2,_,_,_,k3,_⟩:=h.obj hw ha
 obtain⟨j,j1,j2,_,_,_,j3,_⟩:=h.obj hw hb
 have e1:=k2.apart j2 k1 j1 (fun e=>hne e.symm)
 have e2:=j2.apart k2 j1 k1 hne
 omega
theorem ZB.gets{d d':Nv.D}{m a:Nat}{v:Int}(h:ZB d d' m a v)(hl:d.cache.length=8*m)(ha:a<8*m):∀x:Int,x≠a→Nv.get d'.cache x=Nv.get d.cache x:=fun x hx=>by rw[h.get ha hl,if_neg hx]
structure Fld (c c':List Int) (a x:Int):Prop where
 len:c'.length=c.length
 bd:a<x∧x<a+RX c a
 o:∀y,y≠x→Nv.get c' y=Nv.get c y
section
variable{c c':List Int}{s:IX}{N:Nat}{X:Int→Prop}{a x:Int}
theorem Fld.off(f:Fld c c' a x)(h:GK c s N X)(hw:Ob.Qv c)(ha:Ee s.U a=true){b:Int}(hb:Ee s.U b=true):Nv.get c' b=Nv.get c b:=by
 refine f.o b fun e=>?_
 have hx:=f.bd
 by_cases hab:a=b
 ·omega
 ·obtain⟨j,_,_,_,_,j3,_,_⟩:=h.obj hw hb
  exact h.apart hw ha hb hab (y:=x) ⟨Y,hx.2⟩ ⟨Y,Y⟩
theorem Fld.far(f:Fld c c' a x)(h:GK c s N X)(hw:Ob.Qv c)(ha:Ee s.U a=true):512≤x∧x<c.length:=by
 have hx:=f.bd
 obtain⟨k,k1,k2,_,k3,_,k4,k5⟩:=h.obj hw ha
 have:=h.cl
 omega
theorem Fld.al(f:Fld c c' a x)(h:GK c s N X)(hw:Ob.Qv c)(ha:Ee s.U a=true):GK c' s N X:=by
 have h5:=f.far h hw ha
 exact h.words f.len (fun y h1 h2=>f.o y Y) fun b hb=>f.off h hw ha hb
theorem Fld.hd(f:Fld c c' a x)(h:GK c s N X)(hw:Ob.Qv c)(ha:Ee s.U a=true){b:Int}(hb:Ee s.U b=true):Ob.hd c' b=Ob.hd c b∧Ob.hp c' b=Ob.hp c b∧Ob.hq c' b=Ob.hq c b:=Ph f.len (f.off h hw ha hb)
theorem Fld.other(f:Fld c c' a x)(h:GK c s N X)(hw:Ob.Qv c)(ha:Ee s.U a=true){b:Int}(hb:Ee s.U b=true)(hne:a≠b){y:Int}(hy:b≤y∧y<b+RX c b):Nv.get c' y=Nv.get c y:=by
 refine f.o y fun e=>?_
 subst e
 have hx:=f.bd
 exact h.apart hw ha hb hne ⟨Y,hx.2⟩ hy
end
theorem KR.words{d d':Nv.D}{m n k:Nat}{id E:Int}{hs hs':List Ob.H3}{R:List Int}(h:KR d m n id hs k E R)(D:Dv d' m)(hd:aer d'.cache hs')(hl:hs'.length=n)(sm:Yr hs')(hx:∀x:Int,x<256→Nv.get d'.cache x=Nv.get d.cache x):KR d' m n id hs' k E R:=by
 have e1:EN d'.cache 64 16=EN d.cache 64 16:=N8 16 fun x hx1=>hx _ Y
 have e2:EN d'.cache 128 16=EN d.cache 128 16:=N8 16 fun x hx1=>hx _ Y
 exact⟨D,h.hm,h.n2,h.hid,(TQ 8 fun x hx1=>hx _ Y).trans h.su,hd,hl,sm,by rw[e1,e2];exact h.ck,by rw[e1,e2];exact h.ce,by rw[e1,e2];exact h.cr,h.k1,h.E1,h.R8⟩
end
end
section
section
open Go.RowKit
structure Fq where
 s:IX
 pH:Nat
 t:Nat
 k:Nat
 E:Int
 R:List Int
 V:List Int
 rg:List Int
 hP:Nat
 hS:Nat
 hB:Nat
 hC:Nat
 hA:Option Addr
 hL:List Bool
 pC:Nat
 sP:Nat
 sB:Nat
 sC:Nat
 sA:Option Addr
 sL:List Bool
 M:KF
 z:SwS
 ph:Int
 cy:Int
 st:Int
def Fq.fv(h:Fq):Value:= .func (.func 55) #[ptr h.pH] #[]
def Fq.L(g:Geo)(d:Nv.D)(h:Fq):List FU:=
 [blk h.pH (hpC g.p h.s.pA h.t h.rg h.hP h.pC h.sP) 111,grp (TF g d h.s),blk h.t (Me g.p h.E h.R h.k h.V) 220,grp (hdE h.s.pA h.hP h.hS h.hB h.hA h.hC h.hL),blk h.pC (cyC h.s.pA h.M.pK h.z.p h.fv h.ph h.cy h.st) 199,grp (II h.sP h.sB h.sA h.sC h.sL),grp (h.M.L h.s.pA 3),grp (h.z.L h.s.pA h.M.pK)]
structure F6 (d:Nv.D) (m n:Nat) (id:Int) (h:Fq):Prop where
 dev:KR d m n id h.s.hs h.k h.E h.R
 al:GK d.cache h.s (512*n) fun _=>False
 sn:h.s.n=n
 n40:n≤100
 V8:Rts h.V
 r32:h.rg.length=32
 rb:∀x∈h.rg,0≤x∧x<131072
 hs:Gn h.hB h.hA h.hC h.hL
 hl:h.hL.length=512*n
 ss:Gn h.sB h.sA h.sC h.sL
 mg:MkG (512*n) 3 h.M
 zb:1≤h.z.bk∧h.z.bk≤n
 zl:h.z.gone.length≤131072*h.z.bk
theorem F6.ul{d:Nv.D}{m n:Nat}{id:Int}{h:Fq}(hO:F6 d m n id h):h.s.U.length=512*n:=by rw[hO.al.ul,hO.sn]
theorem F6.hh{d:Nv.D}{m n:Nat}{id:Int}{h:Fq}(hO:F6 d m n id h):∀a,Ee h.s.U a=true→Ob.hd d.cache a=true:=fun a ha=>(Ob.OW (hO.al.us a ha)).2.2
def MZ(d:Nv.D)(h:Fq)(G:Int→Prop):Prop:=h.ph=0∨(h.ph=1∧MkI h.s.U d.cache h.M)∨(h.ph=2∧∀x,G x→h.M.col x≠0)
theorem YM{p pA t:Nat}{R:List Int}{Og pC Oi:Nat}(h:R.length=32):(hpC p pA t R Og pC Oi)[35]? =some (ptr Og)∧(hpC p pA t R Og pC Oi)[36]? =some (ptr pC)∧(hpC p pA t R Og pC Oi)[37]? =some (pt Oi)∧(hpC p pA t R Og pC Oi)[38]? =some (.bool false):=
 ⟨aaq h 0,aaq h 1,aaq h 2,aaq h 3⟩
theorem MkI.shd{n:Nat}{most:Int}{U:List Bool}{c:List Int}{M M':KF}{zs:List Int}(h:MkI U c M)(k:Tz n most U M M' zs):MkI U c M':=by
 have e2:M'.L2=M.L2:=by have:=congrArg KF.L2 k.e;exact this
 have ec:M'.cur=M.cur:=by have:=congrArg KF.cur k.e;exact this
 refine⟨fun x hx=>?_,fun x hx=>?_,fun x hx y hy hu=>?_,fun x h1 h2=>?_⟩
 ·rcases k.nw x hx with h1|h1
  ·exact h.us x h1
  ·exact h1.1
 ·rw[e2]at hx;exact k.up x (h.sm x hx)
 ·rw[e2]at hx;exact k.up y (h.cl x hx y hy hu)
 ·rw[e2]at h2
  rcases k.nw x h1 with h3|⟨_,h3⟩
  ·rcases h.cv x h3 h2 with h4|h4|h4
   ·exact .inl (k.ks x h4)
   ·exact .inr (.inl (k.ag h4))
   ·exact .inr (.inr (by rw[ec];exact h4))
  ·exact h3.imp id .inl
section
variable{g:Geo}{d:Nv.D}{m n:Nat}{id:Int}{h:Fq}{w:World}
theorem aqV(hE:Dj (h.L g d) w)(hO:F6 d m n id h):
 Calls prog 55 [ptr h.pH].toArray w fun e w'=>∃(l:List Int) (A:Option Addr) (c:Nat),(∀x∈h.V,x∈l)∧l.length≤200000∧e= .returned (.slice A l.length c)∧Heap w [] [Ec 1 (.slice A l.length c) l.length (l.map (Value.int .i64)) 3] w':=by
 have HR:=Heap.start hE
 have H:=Heap.nil w
 have h32:=hO.r32
 have hn:=hO.n40
 have hhl:=hO.hl
 have hWk:=fun{W:World} hE=>abv h.t g.p h.E h.k h.R h.V W hE hO.dev.R8.1 hO.V8.1
 obtain⟨v0,v1,v2,v3,v4,v5,v6,v7,hV8⟩:=Nu hO.V8.1
 have hVm:(h.V.map (Value.int .i64))=[.int .i64 v0,.int .i64 v1,.int .i64 v2,.int .i64 v3,.int .i64 v4,.int .i64 v5,.int .i64 v6,.int .i64 v7]:=by rw[hV8];rfl
 rw[hVm]at hWk
 have hAl:=fun{W:World} hE=>aqm (w:=W) (b:=h.pH) (p:=g.p) (pA:=h.s.pA) (t:=h.t) (Og:=h.hP) (pC:=h.pC) (Oi:=h.sP) (R:=h.rg) hE h32
 have hLi:=fun{W:World} hE=>am8 (pA:=h.s.pA) (pH:=h.hP) (pS:=h.hS) (b:=h.hB) (A:=h.hA) (c:=h.hC) (l:=h.hL) (w:=W) hE hO.hs
 obtain⟨q35,q36,q37,q38⟩:=YM (p:=g.p) (pA:=h.s.pA) (t:=h.t) (Og:=h.hP) (pC:=h.pC) (Oi:=h.sP) h32
 have hfl:(h.rg.filter (· ≠0)).length≤32:=by rw[←h32];exact Ho _ _
 have hel:=Bm.acV h.hL
 have apa:=hO.V8.1
 generalize Bm.elems h.hL=el at*
 generalize h.rg.filter (· ≠0)=rf at*
 unfold Fq.L at HR
 refine BO 21 func55 O (AP (EM O (wu ?_)))
 refine BL H O (hWk ((HR.same H.only).RS 2 O)) (arR O) fun W1 H=>Ei H O U0 fun p3 _ H=>vw ?_
 clear H;refine axS fun _ H=>?_
 refine AO (A8 ?_)
 have hSw:∀{W:World},Heap w [] [blk p3 [.int .i64 v0,.int .i64 v1,.int .i64 v2,.int .i64 v3,.int .i64 v4,.int .i64 v5,.int .i64 v6,.int .i64 v7] 103] W→I5 (Value.int .i64) W [] (some ⟨p3,0,none⟩) h.V:=fun H=>fun _=>⟨p3,0,rfl,J,H.VJ 0 rfl hVm.symm⟩
 have hend:∀{A c W},Heap w [] [Ec 1 (.slice A (rf.length+8+el.length) c) (rf.length+8+el.length) ((rf++h.V++el).map (Value.int .i64)) 3] W→∃(l:List Int) (A':Option Addr) (c':Nat),(∀x∈h.V,x∈l)∧l.length≤200000∧Ending.returned (.slice A (rf.length+8+el.length) c)= .returned (.slice A' l.length c')∧Heap w [] [Ec 1 (.slice A' l.length c') l.length (l.map (Value.int .i64)) 3] W:=fun{A c W} H=>by
  have e:(rf++h.V++el).length=rf.length+8+el.length:=by rw[Cj,Cj,apa]
  refine⟨rf++h.V++el,A,c,fun x hx=>CO _ (Du _ hx),Y,by rw[e],by rw[e];exact H⟩
 refine G5 mixed ?_;replace H:=H.drew
 refine fK ?_
 refine EC 4 O O O (fun _ hS=>aiO O underlying103 Ji Y) trivial (EC 6 O O O (fun _ hS=>Cc (v:= .pointer _) O) trivial (EC 7 O O O (fun _ hS=>DT O) trivial (EC 8 O O O (fun _ hS=>Cm O XD) trivial ?_)))
 refine Et 3 9 ?_ ?_
 ·refine CB O (s_call O (hAl ((HR.same H.only).RS 0 O)) (asr O) ?_)
  rintro e W1 ⟨OA,oc,rfl,H'⟩
  refine⟨_,rfl,?_⟩
  have H:=H.more H';clear H';simp only[Bv]at H
  refine ak ?_
  refine Et 5 9 ?_ ?_
  ·refine CB O (kY ?_)
   clear H;intro A1 c1 _ H;simp only[Bv,Nat.reduceAdd]at H
   refine sU ?_
   refine BG (HR.same H.only) 0 O O q35 abB (qW ?_)
   rintro e W1 ⟨LA,lc,rfl,H'⟩
   refine⟨_,rfl,?_⟩
   have H:=H.more H';clear H';simp only[Bv]at H
   refine ak ?_
   refine lN ?_
   clear H;intro A2 c2 _ H;simp only[Bv,Nat.reduceAdd]at H
   refine oN ?_
   first|exact hend (H.BQ [0] rfl rfl)|exact hend (H.BQ [1] rfl rfl)
  ·refine CB O (BG (HR.same H.only) 0 O O q35 abB (oW ?_))
   refine kY ?_
   clear H;intro A1 c1 _ H;simp only[Bv,Nat.reduceAdd]at H
   refine qW ?_
   rintro e W1 ⟨LA,lc,rfl,H'⟩
   refine⟨_,rfl,?_⟩
   have H:=H.more H';clear H';simp only[Bv]at H
   refine ak ?_
   refine lN ?_
   clear H;intro A2 c2 _ H;simp only[Bv,Nat.reduceAdd]at H
   refine oN ?_
   first|exact hend (H.BQ [0] rfl rfl)|exact hend (H.BQ [1] rfl rfl)
 ·refine CB O (BG (HR.same H.only) 0 O O q35 abB (lY ?_))
  refine s_call O (hAl ((HR.same H.only).RS 0 O)) (asr O) ?_
  rintro e W1 ⟨OA,oc,rfl,H'⟩
  refine⟨_,rfl,?_⟩
  have H:=H.more H';clear H';simp only[Bv]at H
  refine oW ?_
  refine kY ?_
  clear H;intro A1 c1 _ H;simp only[Bv,Nat.reduceAdd]at H
  refine qW ?_
  rintro e W1 ⟨LA,lc,rfl,H'⟩
  refine⟨_,rfl,?_⟩
  have H:=H.more H';clear H';simp only[Bv]at H
  refine ak ?_
  refine lN ?_
  clear H;intro A2 c2 _ H;simp only[Bv,Nat.reduceAdd]at H
  refine oN ?_
  first|exact hend (H.BQ [0] rfl rfl)|exact hend (H.BQ [1] rfl rfl)
end
end
end
section
section
open Go.RowKit
section
variable{P:Program}{n:Sz}{f:Nat→Value}{W:World}{ty:TypeId}{pos:String}{af:Array Edge}{g:Option (Nat×Bool)}{c:Operand}
theorem apb{ops:Array Oper}{rest:List Oper}{Q:Exit→Act→World→Prop}{k:Nat}{R:Ending→World→Prop}{fn:FuncId}{F:Func}{xs:Array Operand}{tys:Array TypeId}{vs fs:List Value}(hw:Region.wanted ⟨some k,.call ⟨.value c,xs,tys⟩,ty,pos,af,g⟩ (yl n f ops)=true)
 (hx : ev n f c = .func (.func fn) fs.toArray #[]) (hv : xs.toList.map (ev n f) = vs) (hf : P.funcs[fn]? = some F) (hn : (F.name == "runtime.NumGoroutine") = false) (hb : F.body.isNone = false) (hc : Calls P fn (fs ++ vs).toArray W R)
 (h:∀e W',R e W'→∃v,e= .returned v∧SL P ops Q rest n (upd f k v) W'):SL P ops Q (⟨some k,.call ⟨.value c,xs,tys⟩,ty,pos,af,g⟩::rest) n f W:=by
 refine aeI O hw ?_ hc h
 subst hv
 have h3:xs.map (ev n f)=(xs.toList.map (ev n f)).toArray:=by rw[←Ie]
 simp only[execOp,resolve,hx,Deferred.ofValue,invoke,Sem.run_bind,Sem.run_pure,Result.andThen_ok,h3]
 have h4:fs.toArray++(xs.toList.map (ev n f)).toArray++ #[]=(fs++xs.toList.map (ev n f)).toArray:=by simp
 rw[h4,Nr hf hn hb]
end
theorem Dj.sub{L A:List FU}{w:World}(h:Dj L w)(p:List Nat)(hp:(p++(List.range L.length).filter (fun i=> !p.contains i)).isPerm (List.range L.length)=true)(hA:p.filterMap (fun i=>L[i]?)=A):Dj A w:=((Heap.start h).BQ p hp hA).ents
section
variable{g:Geo}{d:Nv.D}{m n:Nat}{id:Int}{h:Fq}{w:World}
theorem ahO(hE:Dj (h.L g d) w)(hO:F6 d m n id h):
 Calls prog 210 [ptr h.pC].toArray w fun e w'=>∃(b:Bool) (M':KF) (zs:List Int),(∀x∈h.V,x∈zs)∧Tz (512*n) 3 h.s.U h.M M' zs∧(b=false→M'=h.M)∧e= .returned (.bool b)∧Heap w (ids (h.L g d)) (Fq.L g d {h with M:=M'}) w':=by
 have H:=Heap.start hE
 have hLv:=fun{W:World} hE=>aqV (g:=g) (w:=W) hE hO
 have hul:=hO.ul
 have hG:=hO.mg
 rw[←hul]at hG⊢
 generalize hI:ids (h.L g d)=I at*
 refine BO 24 func210 O (uV ?_)
 refine uV ?_
 refine jW ?_
 refine BI O an' (AV (DR H 4 O O O (fun W=>by rfl)) (apb O O O func55 Aw Aw (hLv H.ents) ?_))
 rintro e W1 ⟨zs,LA,lc,hV,hzl,rfl,H'⟩
 refine⟨_,rfl,?_⟩
 have H:=H.more H';clear H';simp only[Bv]at H
 refine Eb O underlying22 (xH ?_)
 have hM0:({h with M:=h.M}:Fq)=h:=rfl
 refine EO (fun z f W=>∃(i:Nat) (M1:KF) (b:Bool),i≤zs.length∧z=zs.length-i∧Tz h.s.U.length 3 h.s.U h.M M1 (zs.take i)∧(b=false→M1=h.M)∧f 0=ptr h.pC∧f 3= .bool b∧f 10= .slice LA zs.length lc∧f 11= .int .i64 zs.length∧f 12= .int .i64 i∧Heap w I (Ec 1 (.slice LA zs.length lc) zs.length (zs.map (Value.int .i64)) 3::Fq.L g d {h with M:=M1}) W) zs.length ⟨0,h.M,false,Y,rfl,.refl hG J,fun _=>rfl,rfl,rfl,rfl,rfl,rfl,H⟩ ?_
 clear H
 rintro z f W ⟨i,M1,b,hi,rfl,hS,hb,f0,f3,f10,f11,f12,H⟩
 obtain⟨f,rfl⟩:=OJ f0 f3 f10 f11 f12
 clear f0 f3 f10 f11 f12
 by_cases hlt:i<zs.length
 ·obtain⟨x,hx⟩:∃x,zs[i]? =some x:=⟨_,Ba hlt⟩
  obtain⟨q,rfl⟩:=H.JO 0 rfl Y
  have hSh:=fun{W:World} hE=>aes (g:=g) (d:=d) (s:=h.s) (M:=M1) (most:=3) (w:=W) hE hO.al.su hS.g Y x
  simp only[Fq.L]at H
  refine qm ?_
  refine AV (XJ H 0 O O hx FM) (AY O (AO (A8 ?_)))
  refine Gl (fun f W=>∃(M2:KF) (b2:Bool),Tz h.s.U.length 3 h.s.U M1 M2 [x]∧(b2=false→M2=M1)∧f 0=ptr h.pC∧f 3= .bool b∧f 10= .slice (some ⟨q,0,none⟩) zs.length lc∧f 11= .int .i64 zs.length∧f 12= .int .i64 i∧f 21= .bool b2∧Heap w I (Ec 1 (.slice (some ⟨q,0,none⟩) zs.length lc) zs.length (zs.map (Value.int .i64)) 3::Fq.L g d {h with M:=M2}) W) ?_ ?_
  ·refine jw ?_
   refine BI O XA (BG H 5 O O O aaw (AQ O (s_call O ((hSh (H.ents.sub [2,7] O O))) (ak3 O) ?_)))
   rintro e W1 ⟨b2,M2,hS2,hb2,rfl,H'⟩
   refine⟨_,rfl,?_⟩
   have H:=H.CX 7 rfl H';clear H';simp only[Bv]at H
   refine AZ (Dp ?_)
   have hpk:M2.pK=M1.pK:=hS2.pk
   rw[←hpk]at H
   exact⟨M2,b2,hS2,hb2,rfl,rfl,rfl,rfl,rfl,rfl,H⟩
  clear H
  rintro f W ⟨M2,b2,hS2,hb2,f0,f3,f10,f11,f12,f21,H⟩
  obtain⟨f,rfl⟩:=XC f0 f3 f10 f11 f12 f21
  clear f0 f3 f10 f11 f12 f21
  have hS3:=hS.trans hS2
  rw[KT hx]at hS3
  cases b2 with
  |true=>
   refine AX (EF O (DF (BH O (AZ (aS ?_)))))
   refine⟨_,_,?_,rfl,i+1,M2,true,Y,rfl,hS3,(fun h=>by cases h),rfl,rfl,rfl,rfl,rfl,H⟩
   omega
  |false=>
   refine AX (o8 ?_)
   refine⟨_,_,?_,rfl,i+1,M2,b,Y,rfl,hS3,(fun h=>by rw[hb2 O,hb h]),rfl,rfl,rfl,rfl,rfl,H⟩
   omega
 ·obtain rfl:i=zs.length:=Y
  rw[F9]at hS
  refine oh ?_
  refine BX O (iP ?_)
  exact⟨b,M1,zs,hV,hS,hb,rfl,H.drop⟩
theorem acC(hE:Dj (h.L g d) w)(hO:F6 d m n id h)(a:Int):
 Calls prog 166 [ptr h.pC,.int .i64 a].toArray w fun e w'=>∃(M':KF) (zs:List Int),Tz (512*n) 3 h.s.U h.M M' zs∧(h.ph=1→zs=[a])∧e= .returned (.tuple #[])∧Heap w (ids (h.L g d)) (Fq.L g d {h with M:=M'}) w':=by
 have H:=Heap.start hE
 have hul:=hO.ul
 have hG:=hO.mg
 rw[←hul]at hG⊢
 have hSh:=fun{W:World} hE=>aes (g:=g) (d:=d) (s:=h.s) (M:=h.M) (most:=3) (w:=W) hE hO.al.su hG Y a
 generalize ids (h.L g d)=I at*
 by_cases hp:h.ph=1
 ·unfold Fq.L at H
  rw[hp]at H
  refine BO 15 func166 O (wX ?_)
  refine wO ?_
  refine jw ?_
  refine BI O XA (BG H 4 O O O aaw (AQ O (s_call O ((hSh (H.ents.sub [1,6] O O))) (ak3 O) ?_)))
  rintro e W1 ⟨b,M',hS,_,rfl,H'⟩
  refine⟨_,rfl,?_⟩
  have H:=H.CX 6 rfl H';clear H';simp only[Bv]at H
  refine AZ (fin0 O ?_)
  have hpk:M'.pK=h.M.pK:=hS.pk
  rw[←hpk,←hp]at H
  exact⟨M',[a],hS,fun _=>rfl,rfl,H⟩
 ·refine BO 15 func166 O (wX ?_)
  refine AV (D5 O O Y) (AO (DC O (Bj (fin0 O ?_))))
  exact⟨h.M,[],.refl hG J,fun h1=>absurd h1 hp,rfl,H⟩
def NM(ph:Int)(M:KF)(a:Int):KF:=if ph=0 then M else{M with L1:=Bm.put M.L1 a true,L2:=Bm.put M.L2 a true}
theorem apd{N:Nat}(hE:Dj (h.L g d) w)(hG:MkG N 3 h.M)(a:Int):
 Calls prog 93 [ptr h.pC,.int .i64 a].toArray w fun e w'=>e= .returned (.tuple #[])∧Heap w (ids (h.L g d)) (Fq.L g d {h with M:=NM h.ph h.M a}) w':=by
 have H:=Heap.start hE
 have hBl:=fun{W:World} hE=>ajg (M:=h.M) (pA:=h.s.pA) (most:=3) (w:=W) hE hG a
 generalize ids (h.L g d)=I at*
 unfold NM
 by_cases hp:h.ph=0
 ·rw[if_pos hp]
  refine BO 15 func93 O (wX ?_)
  refine AV (Dc O O Y) (AO (DC O (Bj (fin0 O ?_))))
  exact⟨rfl,H⟩
 ·rw[if_neg hp]
  unfold Fq.L at H
  refine BO 15 func93 O (wX ?_)
  refine AV (Jr O O Y) (AO (EF O (jw ?_)))
  refine BI O XA (BG H 4 O O O aaw (AQ O (s_call O ((hBl (H.Bl 6 O))) (auR O) ?_)))
  rintro e W1 ⟨rfl,H'⟩
  refine⟨_,rfl,?_⟩
  have H:=H.CX 6 rfl H';clear H';simp only[Bv]at H
  refine AZ (fin0 O ?_)
  exact⟨rfl,H⟩
end
structure Gst (d d':Nv.D) (m:Nat) (h h':Fq) (G:Int→Prop):Prop where
 D:Hst d d' m
 e:{h' with s:=h.s,M:=h.M,z:=h.z,ph:=h.ph,cy:=h.cy,st:=h.st}=h
 se:{h'.s with hs:=h.s.hs,S:=h.s.S,E:=h.s.E,F:=h.s.F,FL:=h.s.FL,U:=h.s.U}=h.s
 us:∀x,Ee h'.s.U x=true→Ee h.s.U x=true
 kp:∀x,G x→Ee h'.s.U x=true
 hs:∀b:Nat,h'.s.hs[b]? =h.s.hs[b]? ∨(h.s.hs[b]?.isSome∧h'.s.hs[b]? =some (0,0,0))
theorem Gst.trans{d d1 d2:Nv.D}{m:Nat}{h h1 h2:Fq}{G:Int→Prop}(a:Gst d d1 m h h1 G)(b:Gst d1 d2 m h1 h2 G):Gst d d2 m h h2 G:=by
 refine⟨⟨b.D.D,fun x hx=>(b.D.o x hx).trans (a.D.o x hx),fun j hj=>b.D.k j (a.D.k j hj)⟩,?_,?_,fun x hx=>a.us x (b.us x hx),b.kp,fun i=>?_⟩
 ·have e1:=a.e
  have e2:=b.e
  rw[←e2]at e1
  exact e1
 ·have e1:=a.se
  have e2:=b.se
  rw[←e2]at e1
  exact e1
 ·rcases b.hs i with h1|⟨h1,h2⟩
  ·rw[h1];exact a.hs i
  ·refine .inr ⟨?_,h2⟩
   rcases a.hs i with h3|⟨h3,_⟩
   ·rw[←h3];exact h1
   ·exact h3
structure Kept (U:List Bool) (c:List Int) (V:List Int) (G:Int→Prop):Prop where
 us:∀x,G x→Ee U x=true
 gen:∀P:Int→Prop,(∀r∈V,G r→P r)→(∀x,P x→G x→∀y∈Ob.ptrs c x,G y→P y)→∀x,G x→P x
section
variable{g:Geo}{d:Nv.D}{m n:Nat}{id:Int}{h:Fq}{w:World}{G:Int→Prop}
theorem Gst.refl(hO:F6 d m n id h)(hK:Kept h.s.U d.cache h.V G):Gst d d m h h G:=⟨.refl hO.dev.dv,rfl,rfl,fun _ h=>h,hK.us,fun _=> .inl rfl⟩
theorem F6.mark(hO:F6 d m n id h){M':KF}{z':SwS}{ph cy st:Int}(hM:MkG (512*n) 3 M')(hz:1≤z'.bk∧z'.bk≤n)(hzl:z'.gone.length≤131072*z'.bk):F6 d m n id {h with M:=M',z:=z',ph:=ph,cy:=cy,st:=st}:=
 ⟨hO.dev,hO.al,hO.sn,hO.n40,hO.V8,hO.r32,hO.rb,hO.hs,hO.hl,hO.ss,hM,hz,hzl⟩
theorem arU(hE:Dj (h.L g d) w)(hO:F6 d m n id h)(hg:Q5 g m)(hC:MZ d h G)(hK:Kept h.s.U d.cache h.V G):
 Calls prog 151 [ptr h.pC].toArray w fun e w'=>∃(d':Nv.D) (h':Fq),F6 d' m n id h'∧MZ d' h' G∧Gst d d' m h h' G∧e= .returned (.int .i64 0)∧Heap w (ids (h.L g d)) (h'.L g d') w':=by
 have H:=Heap.start hE
 have hul:=hO.ul
 have ar8:=hO.n40
 have hdl:=hO.dev.len
 have hmm:=hO.dev.hm
 have hG:=hO.mg
 generalize ids (h.L g d)=I at*
 rcases hC with hp|⟨hp,hI⟩|⟨hp,auV⟩
 ·have hCl:=fun{W:World} hE=>anZ (M:=h.M) (pA:=h.s.pA) (most:=3) (n:=512*n) (w:=W) hE hG Y
  obtain⟨M0,hM0⟩:∃M0:KF,{h.M with L1:=List.replicate (512*n) false,L2:=List.replicate (512*n) false,K:={h.M.K with xs:=[],missed:=0},again:=false,cur:=(512*n:Nat)}=M0:=⟨_,rfl⟩
  rw[hM0]at hCl
  have axn:M0.pK=h.M.pK:=by rw[←hM0]
  have hG0:MkG (512*n) 3 M0:=by
   rw[←hM0]
   exact⟨hG.s1.len2 (by rw[Dn,hG.l1]),hG.s2.len2 (by rw[Dn,hG.l2]),J,J,J,by simp;omega⟩
  have hI0:MkI h.s.U d.cache M0:=by
   rw[←hM0]
   have hno:∀x,¬Ee (List.replicate (512*n) false) x=true:=fun x=>by rw[abg];simp
   exact⟨fun x hx=>absurd hx (hno x),fun x hx=>absurd hx (hno x),fun x hx=>absurd hx (hno x),fun x hx=>absurd hx (hno x)⟩
  have hO0:F6 d m n id {h with M:=M0}:=hO.mark hG0 hO.zb hO.zl
  have hSh:=fun{W:World} hE=>ahO (g:=g) (h:={h with M:=M0}) (w:=W) hE hO0
  unfold Fq.L at H
  rw[hp]at H
  refine qK ?_
  refine AO (E8 (AP (iO ?_)))
  refine AO (EF O (dL ?_))
  refine BI O XA (BG H 4 O O O aaw (s_call O (hCl (H.Bl 6 O)) (atS O) ?_))
  rintro e W1 ⟨rfl,H'⟩
  refine⟨_,rfl,?_⟩
  have H:=H.CX 6 rfl H';clear H';simp only[Bv]at H
  refine AO (A8 ?_)
  rw[←axn,←hp]at H
  change Heap w I (Fq.L g d {h with M:=M0}) _ at H
  refine DF (Bg O (s_call O (hSh H.ents) (aqf O) ?_))
  rintro e W1 ⟨b,M1,zs,hV,hS,_,rfl,H'⟩
  refine⟨_,rfl,?_⟩
  have H:=H.whole H';clear H'
  refine AO ?_
  unfold Fq.L at H
  refine DF (uo ?_)
  refine BI O Po (mM ?_)
  clear H;refine axS fun _ H=>?_
  refine BU O (BI O X7 (mM ?_))
  clear H;refine axS fun _ H=>?_
  refine AZ (CS (AX (uP ?_)))
  exact⟨d,{h with M:=M1,ph:=1,st:=1},hO.mark hS.g hO.zb hO.zl,.inr (.inl ⟨rfl,hI0.shd hS⟩),⟨.refl hO.dev.dv,rfl,rfl,fun _ h=>h,hK.us,fun _=> .inl rfl⟩,rfl,H⟩
 ·have hSt:=fun{W:World} hE=>asK (g:=g) (d:=d) (s:=h.s) (M:=h.M) (most:=3) (w:=W) hE hO.al.su (by rw[hul];exact hG) Y hO.dev.dv.U Y Y hO.hh hI
  unfold Fq.L at H
  rw[hp]at H
  refine qK ?_
  refine AO (E8 (AP (iq ?_)))
  refine iO ?_
  refine AO (EF O (dL ?_))
  refine BI O X7 (BG H 4 O O O FM (AV (Dq O O O) (BU O (BI O X7 (mM ?_)))))
  clear H;refine axS fun _ H=>?_
  refine AO (A8 ?_)
  refine Gl (fun f W=>∃(M1:KF) (b:Bool) (st':Int),MkG (512*n) 3 M1∧MkI h.s.U d.cache M1∧(b=true→∀x,G x→M1.col x≠0)∧f 0=ptr h.pC∧f 72= .bool b∧Heap w I (Fq.L g d {h with M:=M1,st:=st'}) W) ?_ ?_
  ·refine jw ?_
   refine BI O XA (BG H 4 O O O aaw (s_call O ((hSt (H.ents.sub [1,6] O O))) (avz O) ?_))
   rintro e W1 ⟨b,M1,hG1,hI1,hpk,hb,rfl,H'⟩
   refine⟨_,rfl,?_⟩
   have H:=H.CX 6 rfl H';clear H';simp only[Bv]at H
   rw[hul]at hG1
   rw[←hpk,←hp]at H
   have hO1:∀st',F6 d m n id {h with M:=M1,st:=st'}:=fun st'=>hO.mark hG1 hO.zb hO.zl
   cases b with
   |true=>
    refine AV (Ea O) (BX O (Df 68 O O (Df 68 O O (Df 68 O O (DW O O (AZ (Dp ?_)))))))
    exact⟨M1,false,_,hG1,hI1,(fun h=>by cases h),rfl,rfl,H⟩
   |false=>
    have hSh:=fun{st'} {W:World} hE=>ahO (g:=g) (h:={h with M:=M1,st:=st'}) (w:=W) hE (hO1 st')
    refine AV (Ib O) (BX O (Bo 68 O (Ls O) (s_call (ET 68 Aw O) (hSh H.ents) (aqf O) ?_)))
    rintro e W1 ⟨b2,M2,zs,hV,hS,hb2,rfl,H'⟩
    refine⟨_,rfl,?_⟩
    have H:=H.whole H';clear H'
    cases b2 with
    |true=>
     refine Bo 68 O (Ea O) (EZ O O (AZ (Dp ?_)))
     exact⟨M2,false,_,hS.g,hI1.shd hS,(fun h=>by cases h),rfl,rfl,H⟩
    |false=>
     obtain rfl:=hb2 rfl
     refine Bo 68 O (Ib O) (EZ O O (AZ (Dp ?_)))
     refine⟨M2,true,_,hS.g,hI1,fun _ x hx=>?_,rfl,rfl,H⟩
     have h1:Ee M2.L1 x=true:=hK.gen (fun x=>Ee M2.L1 x=true) (fun r hr hu=>hS.got r (hV r hr) (hK.us r hu)) (fun x hx _ y hy hu=>hI1.cl x (hb rfl x hx) y hy (hK.us y hu)) x hx
     unfold KF.col
     rw[if_pos (hb rfl x h1)];omega
  clear H
  rintro f W ⟨M1,b,st',hG1,hI1,hb,f0,f72,H⟩
  obtain⟨f,rfl⟩:=LZ f0 f72
  clear f0 f72
  cases b with
  |true=>
   have hBe:=fun{W:World} hE=>ao7 (z:=h.z) (pA:=h.s.pA) (pK:=M1.pK) (w:=W) hE
   unfold Fq.L at H
   refine AX (EF O (dL ?_))
   refine BI O Po (mM ?_)
   clear H;refine axS fun _ H=>?_
   refine AO (jw ?_)
   refine BI O aaj (BG H 4 O O O aip (s_call O (hBe (H.Bl 7 O)) (avw O) ?_))
   rintro e W1 ⟨rfl,H'⟩
   refine⟨_,rfl,?_⟩
   have H:=H.CX 7 rfl H';clear H';simp only[Bv]at H
   refine AZ (CS (AX (uP ?_)))
   exact⟨d,{h with M:=M1,z:=⟨h.z.p,1,none,0,[]⟩,ph:=2,st:=st'},hO.mark hG1 ⟨BF 1,by show 1≤n;have:=hO.zb;omega⟩ J,.inr (.inr ⟨rfl,hb rfl⟩),⟨.refl hO.dev.dv,rfl,rfl,fun _ h=>h,hK.us,fun _=> .inl rfl⟩,rfl,H⟩
  |false=>
   refine AX (jY ?_)
   refine uP ?_
   exact⟨d,{h with M:=M1,st:=st'},hO.mark hG1 hO.zb hO.zl,.inr (.inl ⟨hp,hI1⟩),⟨.refl hO.dev.dv,rfl,rfl,fun _ h=>h,hK.us,fun _=> .inl rfl⟩,rfl,H⟩
 ·have hSt:=fun{W:World} hE=>ars (g:=g) (d:=d) (m:=m) (s:=h.s) (M:=h.M) (z:=h.z) (most:=3) (w:=W) hE hO.dev.dv hg Y (by rw[hO.sn];exact ar8) (by rw[hO.sn];exact hO.al) (by rw[hul];exact hG) (by rw[hO.sn];exact hO.zb) (by have:=hO.zl;have:=hO.zb;omega)
  unfold Fq.L at H
  rw[hp]at H
  refine qK ?_
  refine AO (E8 (AP (iq ?_)))
  refine dX ?_
  refine AO (DC O (dL ?_))
  refine BI O X7 (BG H 4 O O O FM (AV (Dq O O O) (BU O (BI O X7 (mM ?_)))))
  clear H;refine axS fun _ H=>?_
  refine AO (jW ?_)
  refine BI O aaj (BG H 4 O O O aip ?_)
  refine s_call O ((by have H2:Heap w I ([_,_,_]++ [_,_,_,_,_]) _:=H.order [1,6,7,0,2,3,4,5] O O;exact hSt H2.part)) (auD O) ?_
  rintro e W1 ⟨d',s',z',hS,rfl,H'⟩
  refine⟨_,rfl,?_⟩
  have H2:Heap w I ([_,_,_]++ [_,_,_,_,_]) _:=H.order [1,6,7,0,2,3,4,5] rfl rfl;have H3:=H2.step H' (fun i hi=>hi);clear H H' H2;simp only[Bv]at H3;have H:Heap w I [_,_,_,_,_,_,_,_] _:=H3.order [3,0,4,5,6,7,1,2] rfl rfl;clear H3
  refine vH ?_
  refine A8 ?_
  have epA:s'.pA=h.s.pA:=by have:=congrArg IX.pA hS.e;exact this
  have en:s'.n=h.s.n:=by have:=congrArg IX.n hS.e;exact this
  have ezp:=hS.zp
  have hOf:∀ph cy st,F6 d' m n id {h with s:=s',z:=z',ph:=ph,cy:=cy,st:=st}:=fun ph cy st=>
   ⟨hO.dev.words hS.D.D hS.al.hd (by rw[hS.al.hl,en];exact hO.sn) hS.al.sm fun x hx=>hS.D.o x Y,by rw[←hO.sn];exact hS.al,by show s'.n=n;rw[en];exact hO.sn,hO.n40,hO.V8,hO.r32,hO.rb,hO.hs,hO.hl,hO.ss,hO.mg,by rw[←hO.sn];exact hS.zb,by have:=hS.zl;have:=hO.zl;show z'.gone.length≤131072*z'.bk;omega⟩
  have hGf:∀ph cy st,Gst d d' m h {h with s:=s',z:=z',ph:=ph,cy:=cy,st:=st} G:=fun ph cy st=>⟨hS.D,rfl,hS.e,hS.us,fun x hx=>hS.kp x (hK.us x hx) (auV x hx),hS.hs⟩
  rw[←epA,←ezp]at H
  have hDn:=fun{W:World} hA hE=>amI (g:=g) (d:=d') (s:=s') (M:=h.M) (z:=z') (w:=W) hA hE
  by_cases hdn:s'.n≤z'.bk
  ·rw[decide_eq_true hdn]at hDn
   refine jw ?_
   refine BI O aaj (BG H 4 O O O aip (BL H O (hDn (H.Bl 1 O) (H.Bl 7 O)) (aiu O) fun W1 H=>AO (EF O (dL ?_))))
   refine BI O Po (mM ?_)
   clear H;refine axS fun _ H=>?_
   refine AO (jw ?_)
   refine BI O XQ (BG H 4 O O O FM (AV (Dq O O O) (BU O (BI O XQ (mM ?_)))))
   clear H;refine axS fun _ H=>?_
   refine AZ (CS (AX (uP ?_)))
   exact⟨d',{h with s:=s',z:=z',ph:=0,cy:=_,st:=_},hOf _ _ _,.inl rfl,hGf _ _ _,rfl,H⟩
  ·rw[decide_eq_false hdn]at hDn
   refine jw ?_
   refine BI O aaj (BG H 4 O O O aip (BL H O (hDn (H.Bl 1 O) (H.Bl 7 O)) (aiu O) fun W1 H=>AO (jY ?_)))
   refine uP ?_
   exact⟨d',{h with s:=s',z:=z',ph:=2,cy:=_,st:=_},hOf _ _ _,.inr (.inr ⟨rfl,auV⟩),hGf _ _ _,rfl,H⟩
end
end
end
section
section
open Go.RowKit
theorem XY{c c':List Int}(hl:c'.length=c.length)(hw:Ob.Qv c){a:Int}(hg:∀y,a≤y→y<a+RX c a→Nv.get c' y=Nv.get c y):Ob.hd c' a=Ob.hd c a∧Ob.hp c' a=Ob.hp c a∧Ob.hq c' a=Ob.hq c a∧Ob.ptrs c' a=Ob.ptrs c a:=by
 have hp:=Ob.QS hw a
 unfold RX at hg
 obtain⟨h1,h2,h3⟩:=Ph hl (hg a (Px _) Y)
 refine⟨h1,h2,h3,?_⟩
 unfold Ob.ptrs Ob.LM
 rw[h2]
 refine JA fun i hi=>?_
 have:=Fg.1 hi
 unfold Ob.UL
 rw[hg _ Y Y]
section
variable{g:Geo}{d d':Nv.D}{m n:Nat}{id:Int}{h h':Fq}{w:World}{G:Int→Prop}
theorem Hst.obj(hO:F6 d m n id h)(hH:Hst d d' m){a:Int}(ha:Ee h.s.U a=true):Ob.hd d'.cache a=Ob.hd d.cache a∧Ob.hp d'.cache a=Ob.hp d.cache a∧Ob.hq d'.cache a=Ob.hq d.cache a∧Ob.ptrs d'.cache a=Ob.ptrs d.cache a:=by
 obtain⟨_,_,_,_,axr,_,_,_⟩:=hO.al.obj hO.dev.dv.U ha
 exact XY (by rw[hH.D.len,hO.dev.dv.len]) hO.dev.dv.U fun y h1 h2=>hH.o y Y
theorem Kept.gst(hO:F6 d m n id h)(hK:Kept h.s.U d.cache h.V G)(hS:Gst d d' m h h' G):Kept h'.s.U d'.cache h'.V G:=by
 have eV:h'.V=h.V:=by have:=congrArg Fq.V hS.e;exact this
 refine⟨hS.kp,fun P hr hc x hx=>hK.gen P (fun r hm hg=>hr r (by rw[eV];exact hm) hg) (fun x hx hgx y hy hgy=>hc x hx hgx y ?_ hgy) x hx⟩
 rw[(hS.D.obj hO (hK.us x hgx)).2.2.2];exact hy
theorem auk(hE:Dj (h.L g d) w)(hO:F6 d m n id h)(hg:Q5 g m)(hC:MZ d h G)(hK:Kept h.s.U d.cache h.V G)(k:Nat)(hk:k≤1000):
 Calls prog 82 [ptr h.pC,.int .i64 k].toArray w fun e w'=>∃(b:Bool) (d':Nv.D) (h':Fq),F6 d' m n id h'∧MZ d' h' G∧Gst d d' m h h' G∧e= .returned (.tuple #[.bool b,.int .i64 0])∧Heap w (ids (h.L g d)) (h'.L g d') w':=by
 have H:=Heap.start hE
 generalize ids (h.L g d)=I at*
 refine BO 28 func82 O (AP (BH O (lV ?_)))
 refine Hu O O (al9 (c:=(k:Int)) O O zW) (xH ?_)
 refine EO (fun z f W=>∃(i:Nat) (d1:Nv.D) (h1:Fq),i≤k∧z=k-i∧F6 d1 m n id h1∧MZ d1 h1 G∧Gst d d1 m h h1 G∧f 0=ptr h1.pC∧f 9= .int .i64 k∧f 10= .int .i64 i∧Heap w I (h1.L g d1) W) k ⟨0,d,h,Y,rfl,hO,hC,Gst.refl hO hK,rfl,rfl,rfl,H⟩ ?_
 clear H
 rintro z f W ⟨i,d1,h1,hi,rfl,hO1,hC1,hS1,f0,f9,f10,H⟩
 obtain⟨f,rfl⟩:=KI f0 f9 f10
 clear f0 f9 f10
 by_cases hlt:i<k
 ·have hK1:=hK.gst hO hS1
  have hSt:=fun{W:World} hE=>arU (g:=g) (w:=W) hE hO1 hg hC1 hK1
  refine aB ?_
  refine Bg O (BU O (BI O XQ (BG H 4 O O O FM (AY O (AO (A8 (AP (Bg O (s_call O (hSt H.ents) (atg O) ?_)))))))))
  rintro e W1 ⟨d2,h2,hO2,hC2,hS2,rfl,H'⟩
  refine⟨_,rfl,?_⟩
  have H:=H.whole H';clear H'
  refine vH ?_
  refine A8 ?_
  have epC:h2.pC=h1.pC:=by have:=congrArg Fq.pC hS2.e;exact this
  rw[←epC]
  by_cases hc:h1.cy<h2.cy
  ·refine jw ?_
   refine BI O XQ (BG H 4 O O O FM (AQ O (AV (Oz O O Y) (oV ?_))))
   refine BH O (AY O (AO (kL ?_)))
   refine nV ?_
   exact⟨true,d2,h2,hO2,hC2,hS1.trans hS2,rfl,H⟩
  ·refine jw ?_
   refine BI O XQ (BG H 4 O O O FM (AQ O (AV (Jy O O Y) (AO (o8 ?_)))))
   refine⟨_,_,?_,rfl,i+1,d2,h2,Y,rfl,hO2,hC2,hS1.trans hS2,rfl,rfl,rfl,H⟩
   omega
 ·refine oh ?_
  refine BH O (xA ?_)
  refine nV ?_
  exact⟨false,d1,h1,hO1,hC1,hS1,rfl,H⟩
theorem aep(hE:Dj (h.L g d) w):Calls prog 83 [ptr h.pH,.int .i64 0].toArray w fun e w'=>e= .returned (.int .i64 0)∧Only [] w w':=by
 have H:=Heap.nil w
 refine BO 11 func83 O (AP (lV ?_))
 refine kC ?_
 refine AP (AQ O (eu ?_))
 exact⟨rfl,H.only⟩
theorem ai2(hE:Dj (h.L g d) w)(hO:F6 d m n id h)(hg:Q5 g m)(hC:MZ d h G)(hK:Kept h.s.U d.cache h.V G)(k:Nat)(hk:k≤1000):
 Calls prog 22 [ptr h.pH,.int .i64 k].toArray w fun e w'=>∃(b:Bool) (d':Nv.D) (h':Fq),F6 d' m n id h'∧MZ d' h' G∧Gst d d' m h h' G∧e= .returned (.tuple #[.bool b,.int .i64 0])∧Heap w (ids (h.L g d)) (h'.L g d') w':=by
 have H:=Heap.start hE
 have h32:=hO.r32
 obtain⟨q35,q36,q37,q38⟩:=YM (p:=g.p) (pA:=h.s.pA) (t:=h.t) (Og:=h.hP) (pC:=h.pC) (Oi:=h.sP) h32
 generalize ids (h.L g d)=I at*
 have hRn:=fun{W:World} hE=>auk (g:=g) (w:=W) hE hO hg hC hK k hk
 refine BO 25 func22 O (AP (BH O (AY O (AO (jW ?_)))))
 refine BI O Qs (BG H 0 O O q38 Zi (dK ?_))
 refine dL ?_
 refine BI O Yn (BG H 0 O O q36 aiR (AQ O (s_call O (hRn H.ents) (av7 O) ?_)))
 rintro e W1 ⟨b,d',h',hO',hC',hS',rfl,H'⟩
 refine⟨_,rfl,?_⟩
 have H:=H.whole H';clear H'
 refine Dt O (jR ?_)
 refine CV O O (BH O (AY O (AO (A8 ?_))))
 have epH:h'.pH=h.pH:=by have:=congrArg Fq.pH hS'.e;exact this
 have hDn:=fun{W:World} hE=>aep (g:=g) (d:=d') (h:=h') (w:=W) hE
 rw[←epH]
 refine DF (BX O (Bg O (AQ O (BL H O (hDn H.ents) (amU O) fun W1 H=>BH O (xA ?_)))))
 refine nV ?_
 exact⟨b,d',h',hO',hC',hS',rfl,H⟩
end
end
end
section
section
theorem WS{α:Type}[BEq α][LawfulBEq α](x:α):∀(l l':List α),(∀i:Nat,l'[i]? =some x→l[i]? =some x)→l'.count x≤l.count x
 |_,[],_=>by simp
 | [],y::l',h=>by
  have h0:(y::l').count x=0:=List.count_eq_zero.2 fun hm=>by
   obtain⟨i,hi⟩:=GX hm
   have:=h i hi;simp at this
  omega
 |z::l,y::l',h=>by
  have ih:=WS x l l' fun i hi=>by have:=h (i+1) zZ;simpa using this
  rw[List.count_cons,List.count_cons]
  by_cases e:y=x
  ·have:=h 0 (by simp[e])
   have e2:z=x:=by simpa using this
   simp[e,e2];exact ih
  ·have:(y==x)=false:=by simpa using e
   rw[this]
   simp
   omega
theorem afl{U U':List Bool}(h:∀x:Int,Ee U' x=true→Ee U x=true):Bm.cnt U'≤Bm.cnt U:=WS true U U' fun i hi=>by
 have h1:Ee U' i=true:=by unfold Ee Bm.at_;rw[BN,BJ,hi];simp
 have h2:=h i h1
 have hlt:=NZ h2
 unfold Ee Bm.at_ at h2
 rw[BN,BJ]at h2
 cases e:U[i]? with
 |none=>rw[e]at h2;simp at h2
 |some y=>rw[e]at h2;simp at h2;rw[h2]
theorem aiz:∀(a b:List Int),a.Nodup→(∀x∈a,x∈b)→a.length≤b.length
 | [],_,_,_=>Jh _
 |x::a,b,hd,hs=>by
  have h1:=hs x J
  have hx:=(HY.1 hd).1
  have:=aiz a (b.erase x) (HY.1 hd).2 fun y hy=>(afo (fun e=>hx (by rw[←e];exact hy))).2 (hs y (DZ _ hy))
  rw[Sj h1]at this
  have hp:=ael h1
  rw[Es];omega
def Qm(hs:List Ob.H3)(k m:Nat):Nat→List Int
 |0=> []
 |N+1=>Qm hs k m N++if hs[N]? =some (1,(k:Int),0)then(List.range m).map fun(i:Nat)=>Ja N k i else []
theorem Zu(hs:List Ob.H3)(k m:Nat):∀N,N≤hs.length→(Qm hs k m N).length=m*(hs.take N).count (1,(k:Int),0)
 |0,_=>by simp[Qm]
 |N+1,h=>by
  have ih:=Zu hs k m N Y
  have hg:hs[N]? =some hs[N]:=Ba Y
  rw[Qm,Cj,ih,J8,hg,Option.toList_some,Mc,agn,Nat.mul_add]
  by_cases e:hs[N]=(1,(k:Int),0)
  ·rw[if_pos (by rw[e]),e];simp
  ·rw[if_neg (by simpa using e)]
   have:(hs[N]==(1,(k:Int),0))=false:=by simpa using e
   rw[this];simp
theorem Vp{hs:List Ob.H3}{k m:Nat}{x:Int}:∀{N:Nat},x∈Qm hs k m N→∃(b i:Nat),b<N∧i<m∧hs[b]? =some (1,(k:Int),0)∧x=Ja b k i
 |0,h=>by simp[Qm]at h
 |N+1,h=>by
  rw[Qm]at h
  rcases Ci.1 h with h|h
  ·obtain⟨b,i,h1,h2⟩:=Vp h
   exact⟨b,i,Y,h2⟩
  ·split at h
   ·rename_i e
    obtain⟨i,hi,rfl⟩:=DN.1 h
    exact⟨N,i,Y,Fg.1 hi,e,rfl⟩
   ·simp at h
theorem aa3{hs:List Ob.H3}{k m:Nat}(hk:k<32)(hm:Cl.cells k=m):∀N,(Qm hs k m N).Nodup
 |0=>List.nodup_nil
 |N+1=>by
  rw[Qm]
  refine C9.2 ⟨aa3 hk hm N,?_,fun x hx y hy e=>?_⟩
  ·split
   ·refine Ru.2 (List.nodup_range.imp ?_)
    intro i j hij e
    refine hij ?_
    rcases Nat.lt_trichotomy i j with h1|h1|h1
    ·have:=Tv (b:=(N:Int)) (k:=(k:Int)) Y (show(i:Int)<j by omega);omega
    ·exact h1
    ·have:=Tv (b:=(N:Int)) (k:=(k:Int)) Y (show(j:Int)<i by omega);omega
   ·exact List.nodup_nil
  ·subst e
   obtain⟨b,i,h1,h2,h3,h4⟩:=Vp hx
   split at hy
   ·obtain⟨j,hj,e2⟩:=DN.1 hy
    have hj:=Fg.1 hj
    have e3:=FP (b:=(b:Int)) (k:=(k:Int)) (i:=i) Y Y
    have e4:=FP (b:=(N:Int)) (k:=(k:Int)) (i:=j) Y Y
    rw[←h4]at e3
    rw[e2]at e4
    omega
   ·simp at hy
theorem GK.full{c:List Int}{s:IX}{N k m:Nat}(h:GK c s N fun _=>False)(hk:k<32)(hm:Cl.cells k=m)(h0:lk s.F k=0):m*s.hs.count (1,(k:Int),0)≤Bm.cnt s.U:=by
 have h1:=Zu s.hs k m s.hs.length (BF _)
 rw[F9]at h1
 rw[←h1,Bm.ari]
 refine aiz _ _ (aa3 hk hm _) fun x hx=>?_
 obtain⟨b,i,b1,i1,b2,rfl⟩:=Vp hx
 have hb1:1≤b:=by
  rcases GV b with e|e
  ·subst e
   have:=h.hd.h0
   rw[b2]at this
   injection this with this
   injection this with this _
   cases this
  ·exact e
 have hc:Hl s.hs s.n k (Ja b k i):=⟨b,i,hb1,by rw[←h.hl];exact b1,b2,Y,Y,rfl⟩
 have hu:Ee s.U (Ja b k i)=true:=by
  cases hu:Ee s.U (Ja b k i)with
  |true=>rfl
  |false=>
   have:=(h.fm k hk _).2 ⟨hc,hu,fun h=>h⟩
   unfold lk at h0
   rw[List.length_eq_zero_iff.1 h0]at this
   cases this
 have hr:=NZ hu
 obtain⟨y,hy⟩:=BR hr.1
 rw[hy]at hu⊢
 unfold Ee at hu
 rw[FQ]at hu
 have h2:=hu.2
 rw[BJ]at h2
 unfold Bm.elems Bm.upto
 exact DN.2 ⟨y,GZ.2 ⟨Fg.2 (Bm.afT h2),h2⟩,rfl⟩
theorem av2:Cl.cells (1:Nat)=(170:Nat):=by decide
theorem axg:Cl.cells (3:Nat)=(102:Nat):=by decide
structure Cap (hs:List Ob.H3) (U:List Bool) (A:Nat):Prop where
 cnt:Bm.cnt U≤A
 kd:∀x∈hs,x=(0,0,0)∨x=(1,1,0)∨x=(1,3,0)
 n1:170*hs.count (1,1,0)≤A+170
 n3:102*hs.count (1,3,0)≤A+102
theorem Cap.mono{hs:List Ob.H3}{U:List Bool}{A B:Nat}(h:Cap hs U A)(hB:A≤B):Cap hs U B:=⟨FC h.cnt hB,h.kd,by have:=h.n1;omega,by have:=h.n3;omega⟩
theorem Cap.less{hs hs':List Ob.H3}{U U':List Bool}{A:Nat}(h:Cap hs U A)(h1:∀b:Nat,hs'[b]? =hs[b]? ∨hs'[b]? =some (0,0,0))(h2:∀x:Int,Ee U' x=true→Ee U x=true):Cap hs' U' A:=by
 have hc:∀x:Ob.H3,x≠(0,0,0)→hs'.count x≤hs.count x:=fun x hx=>WS x hs hs' fun i hi=>by
  rcases h1 i with e|e
  ·rw[←e];exact hi
  ·rw[e]at hi;injection hi with hi;exact absurd hi.symm hx
 refine⟨FC (afl h2) h.cnt,fun x hx=>?_,?_,?_⟩
 ·obtain⟨i,hi⟩:=GX hx
  rcases h1 i with e|e
  ·rw[e]at hi;exact h.kd x (BP hi)
  ·rw[e]at hi;injection hi with hi;exact .inl hi.symm
 ·have:=hc (1,1,0) J
  have:=h.n1;omega
 ·have:=hc (1,3,0) J
  have:=h.n3;omega
theorem Zp:∀(hs:List Ob.H3),(∀x∈hs,x=(0,0,0)∨x=(1,1,0)∨x=(1,3,0))→hs.length=hs.count (0,0,0)+hs.count (1,1,0)+hs.count (1,3,0)
 | [],_=>rfl
 |x::hs,h=>by
  have ih:=Zp hs fun y hy=>h y (DZ _ hy)
  rw[Es,List.count_cons,List.count_cons,List.count_cons]
  rcases h x J with rfl|rfl|rfl
  ·simp;omega
  ·simp;omega
  ·simp;omega
theorem Cap.room{hs:List Ob.H3}{U:List Bool}{A:Nat}(h:Cap hs U A)(h0:hs[0]? =some (0,0,0))(hl:hs.length=40)(hA:A≤1800):∃b:Nat,QY hs 40 b:=by
 have hk:=Zp hs h.kd
 have h1:=h.n1
 have h3:=h.n3
 have hc:2≤hs.count (0,0,0):=Y
 cases hs with
 |nil=>simp at hl
 |cons x l=>
  simp at h0
  subst h0
  rw[List.count_cons_self]at hc
  have hm:(0,0,0)∈l:=WJ.1 Y
  obtain⟨i,hi⟩:=GX hm
  have hlt:=(BK.1 hi).1
  simp at hl
  exact⟨i+1,Y,Y,(0,0,0),by rw[BJ];simpa using hi,rfl⟩
theorem OB{x y:Ob.H3}(z:Ob.H3):∀(l:List Ob.H3) (b:Nat),l[b]? =some x→(l.set b y).count z+(if x=z then 1 else 0)=l.count z+(if y=z then 1 else 0)
 | [],b,h=>by simp at h
 |a::l,0,h=>by
  simp at h
  subst h
  rw[Bf,List.count_cons,List.count_cons]
  have e1:∀w:Ob.H3,(if(w==z)=true then 1 else 0)=if w=z then 1 else 0:=fun w=>by simp
  rw[e1,e1];omega
 |a::l,b+1,h=>by
  rw[Bd,List.count_cons,List.count_cons]
  have:=OB z l b zU (y:=y)
  omega
theorem anC{U:List Bool}{a:Int}(ha:0≤a∧a<U.length)(h:Ee U a=false):Bm.cnt (Bm.put U a true)=Bm.cnt U+1:=by
 obtain⟨i,rfl⟩:=BR ha.1
 rw[Bm.RU true Y]
 exact Bm.ahB U i Y (by rw[←Bm.U9];exact h)
theorem Cap.alloc{c:List Int}{s:IX}{N A k:Nat}{hs':List Ob.H3}{F':Nat→EP}{a:Int}(h:Cap s.hs s.U A)(hA:GK c s N fun _=>False)(hk:k=1∨k=3)(ha:0≤a∧a<s.U.length)(hu:Ee s.U a=false)
 (hc:hs'=s.hs∧lk F' k+1=lk s.F k∨lk s.F k=0∧(∃b:Nat,QY s.hs s.n b∧hs'=s.hs.set b (1,(k:Int),0))∧(lk F' k:Int)+1=Cl.cells k):Cap hs' (Bm.put s.U a true) (A+1):=by
 have hcnt:=anC ha hu
 have h0:=h.cnt
 have h1:=h.n1
 have h3:=h.n3
 rcases hc with⟨rfl,_⟩|⟨hf,⟨b,hb,rfl⟩,_⟩
 ·exact⟨Y,h.kd,Y,Y⟩
 ·obtain⟨b1,b2,x,b3,b4⟩:=hb
  rw[BJ]at b3
  have hx0:x=(0,0,0):=by
   rcases h.kd x (BP b3)with e|e|e
   ·exact e
   ·rw[e]at b4;cases b4
   ·rw[e]at b4;cases b4
  subst hx0
  rcases hk with rfl|rfl
  ·have s1:=OB (y:=(1,(1:Int),0)) (1,1,0) s.hs b b3
   have s3:=OB (y:=(1,(1:Int),0)) (1,3,0) s.hs b b3
   rw[if_neg J,if_pos rfl]at s1
   rw[if_neg J,if_neg J]at s3
   have h4:170*s.hs.count (1,(1:Int),0)≤Bm.cnt s.U:=hA.full (k:=1) Y av2 hf
   refine⟨Y,fun y hy=>?_,?_,?_⟩
   ·rcases DY hy with h4|rfl
    ·exact h.kd y h4
    ·exact .inr (.inl rfl)
   ·show 170*(s.hs.set b (1,(1:Int),0)).count (1,1,0)≤_
    omega
   ·show 102*(s.hs.set b (1,(1:Int),0)).count (1,3,0)≤_
    omega
  ·have s1:=OB (y:=(1,(3:Int),0)) (1,1,0) s.hs b b3
   have s3:=OB (y:=(1,(3:Int),0)) (1,3,0) s.hs b b3
   rw[if_neg J,if_neg J]at s1
   rw[if_neg J,if_pos rfl]at s3
   have h4:102*s.hs.count (1,(3:Int),0)≤Bm.cnt s.U:=hA.full (k:=3) Y axg hf
   refine⟨Y,fun y hy=>?_,?_,?_⟩
   ·rcases DY hy with h4|rfl
    ·exact h.kd y h4
    ·exact .inr (.inr rfl)
   ·show 170*(s.hs.set b (1,(3:Int),0)).count (1,1,0)≤_
    omega
   ·show 102*(s.hs.set b (1,(3:Int),0)).count (1,3,0)≤_
    omega
end
end
section
section
open Go.RowKit
theorem Heap.abu{w0 W:World}{F:List Nat}{L:List FU}{g:Geo}{d:Nv.D}{s:IX}(H:Heap w0 F L W)(k:Nat)(hk:L[k]? =some (grp (TF g d s))):Dj (Dy g d) W:=
 (Heap.start (H.Bl k hk)).Bl 0 rfl
theorem Heap.ar6{w0 W:World}{F:List Nat}{L:List FU}{g:Geo}{d:Nv.D}{s:IX}(H:Heap w0 F L W)(k:Nat)(hk:L[k]? =some (grp (TF g d s))):Dj (s.L g) W:=
 (Heap.start (H.Bl k hk)).drop.ents
theorem Heap.ah2{w0 W W':World}{F:List Nat}{L:List FU}{g:Geo}{d d':Nv.D}{s:IX}(H:Heap w0 F L W)(k:Nat)(hk:L[k]? =some (grp (TF g d s)))(H':Heap W (ids (Dy g d)) (Dy g d') W'):Heap w0 F (L.set k (grp (TF g d' s))) W':=
 H.CX k hk ((Heap.start (H.Bl k hk)).CX 0 rfl H')
section
variable{b p pA t Og pC Oi:Nat}{R:List Int}{w:World}
theorem anJ(hE:Dj [blk b (hpC p pA t R Og pC Oi) 111] w)(hR:R.length=32)(m r:Nat)(hm:m<4)(hr:r<8)(h0:R.getD (8*m+r) 0=0):
 Calls prog 207 [.pointer (some ⟨b,3,none⟩),.agg [.int .i64 m,.int .i64 r].toArray].toArray w fun e w'=>e= .returned (.tuple #[.int .i64 0,.int .i64 6])∧Only [] w w':=by
 have HR:=Heap.start hE
 have H:=Heap.nil w
 have hG:=fun{W:World} hE=>afZ (w:=W) (b:=b) (p:=p) (pA:=pA) (t:=t) (Og:=Og) (pC:=pC) (Oi:=Oi) (R:=R) hE hR m r hm hr
 rw[h0]at hG
 refine BO 22 func207 O (AP (D9 H O O fun p3 _ H=>kG ?_))
 refine AP (Bg O (vU ?_))
 refine BL H O (hG (HR.same H.only).ents) (agm O) fun W1 H=>jP ?_
 refine AO (iQ ?_)
 refine AV (D7 O O Y) (BX O (Bo 16 O (Gm O) (Bo 16 O (D7 O O Y) (EZ O O (oV ?_)))))
 refine nC ?_
 exact⟨rfl,H.drop.only⟩
end
section
variable{g:Geo}{d:Nv.D}{m n:Nat}{id:Int}{h:Fq}{w:World}
theorem F6.reg(hO:F6 d m n id h)(i:Nat){a:Int}(ha:0≤a∧a<131072):F6 d m n id {h with rg:=h.rg.set i a}:=
 ⟨hO.dev,hO.al,hO.sn,hO.n40,hO.V8,by show(h.rg.set i a).length=32;rw[Hz];exact hO.r32,fun x hx=>by
  rcases DY hx with h1|rfl
  ·exact hO.rb x h1
  ·exact ha,hO.hs,hO.hl,hO.ss,hO.mg,hO.zb,hO.zl⟩
theorem F6.mkM(hO:F6 d m n id h){M':KF}(hM:MkG (512*n) 3 M'):F6 d m n id {h with M:=M'}:=hO.mark hM hO.zb hO.zl
theorem F6.bd(hO:F6 d m n id h){a:Int}(ha:Ee h.s.U a=true):512≤a∧a<131072:=by
 obtain⟨_,_,_,_,axr,h1,h2,h3⟩:=hO.al.obj hO.dev.dv.U ha
 have:=hO.sn
 have:=hO.n40
 omega
theorem Tz.col{n:Nat}{most:Int}{U:List Bool}{M M':KF}{zs:List Int}(k:Tz n most U M M' zs){x:Int}(h:M.col x≠0):M'.col x≠0:=by
 have e2:M'.L2=M.L2:=by have:=congrArg KF.L2 k.e;exact this
 unfold KF.col at h⊢
 rw[e2]
 split
 ·omega
 ·rename_i h2
  rw[if_neg h2]at h
  split at h
  ·rename_i h1
   rw[if_pos (k.up x h1)];omega
  ·omega
theorem MZ.shd{G:Int→Prop}(hC:MZ d h G){N:Nat}{M':KF}{zs:List Int}(k:Tz N 3 h.s.U h.M M' zs):MZ d {h with M:=M'} G:=by
 rcases hC with h1|⟨h1,h2⟩|⟨h1,h2⟩
 ·exact .inl h1
 ·exact .inr (.inl ⟨h1,h2.shd k⟩)
 ·exact .inr (.inr ⟨h1,fun x hx=>k.col (h2 x hx)⟩)
theorem aa9(hE:Dj (h.L g d) w):Calls prog 11 [ptr h.pH].toArray w fun e w'=>e= .returned (ptr g.p)∧Only [] w w':=by
 have HR:=Heap.start hE
 have H:=Heap.nil w
 unfold Fq.L hpC at HR
 refine BO 7 func11 O (AP (Fb O (uj ?_)))
 refine BI O Rh (BG (HR.same H.only) 0 O O O J7 (sQ ?_))
 exact⟨rfl,H.only⟩
theorem aea(hE:Dj (h.L g d) w):Calls prog 28 [ptr h.pH].toArray w fun e w'=>e= .returned (ptr h.s.pA)∧Only [] w w':=by
 have HR:=Heap.start hE
 have H:=Heap.nil w
 unfold Fq.L hpC at HR
 refine BO 7 func28 O (AP (Fb O (uj ?_)))
 refine BI O ZV (BG (HR.same H.only) 0 O O O PZ (sQ ?_))
 exact⟨rfl,H.only⟩
theorem acF(hE:Dj (h.L g d) w)(hO:F6 d m n id h):Calls prog 127 [ptr h.pH].toArray w fun e w'=>e= .returned (.agg (h.V.map (Value.int .i64)).toArray)∧Only [] w w':=by
 have HR:=Heap.start hE
 have H:=Heap.nil w
 have hWk:=fun{W:World} hE=>abv h.t g.p h.E h.k h.R h.V W hE hO.dev.R8.1 hO.V8.1
 unfold Fq.L at HR
 obtain⟨v0,v1,v2,v3,v4,v5,v6,v7,hV8⟩:=Nu hO.V8.1
 have hVm:(h.V.map (Value.int .i64))=[.int .i64 v0,.int .i64 v1,.int .i64 v2,.int .i64 v3,.int .i64 v4,.int .i64 v5,.int .i64 v6,.int .i64 v7]:=by rw[hV8];rfl
 rw[hVm]at hWk⊢
 refine BO 8 func127 O (AP (Ei H O U0 fun p2 _ H=>wu ?_))
 refine BL H O (hWk ((HR.same H.only).RS 2 O)) (arR O) fun W1 H=>vw ?_
 clear H;refine axS fun _ H=>?_
 refine AO (BM (abJ O (JB H 0 O O O Kz Iw) ?_))
 exact⟨rfl,H.only⟩
theorem av3(hE:Dj (h.L g d) w)(h32:h.rg.length=32)(mu r:Nat)(hmu:mu<4)(hr:r<8)(v:Int)(hv:h.rg.getD (8*mu+r) 0=v):Calls prog 106 [ptr h.pH,.agg [.int .i64 mu,.int .i64 r].toArray].toArray w fun e w'=>e= .returned (.tuple #[.int .i64 v,.int .i64 0])∧Only [] w w':=by
 subst hv
 have HR:=Heap.start hE
 have H:=Heap.nil w
 have hG:=fun{W:World} hE=>afZ (w:=W) (b:=h.pH) (p:=g.p) (pA:=h.s.pA) (t:=h.t) (Og:=h.hP) (pC:=h.pC) (Oi:=h.sP) (R:=h.rg) hE h32 mu r hmu hr
 unfold Fq.L at HR
 generalize h.rg.getD (8*mu+r) 0=v at*
 refine BO 13 func106 O (AP (D9 H O O fun p3 _ H=>kG ?_))
 refine A8 ?_
 refine G5 mixed ?_;replace H:=H.drew
 refine fK ?_
 refine nI ?_
 refine BL H O (hG ((HR.same H.only).RS 0 O)) (agm O) fun W1 H=>ak ?_
 refine dY ?_
 refine CU (AX (BM (aX ?_)))
 exact⟨rfl,H.only⟩
theorem aaA(hE:Dj (h.L g d) w)(h32:h.rg.length=32)(mu r:Nat)(hmu:mu<4)(hr:r<8)(h0:h.rg.getD (8*mu+r) 0≠0):Calls prog 142 [ptr h.pH,.agg [.int .i64 mu,.int .i64 r].toArray].toArray w fun e w'=>e= .returned (.tuple #[.int .i64 (h.rg.getD (8*mu+r) 0),.int .i64 0])∧Only [] w w':=by
 have HR:=Heap.start hE
 have H:=Heap.nil w
 have hG:=fun{W:World} hE=>arY (w:=W) (b:=h.pH) (p:=g.p) (pA:=h.s.pA) (t:=h.t) (Og:=h.hP) (pC:=h.pC) (Oi:=h.sP) (R:=h.rg) hE h32 mu r hmu hr h0
 obtain⟨q35,q36,q37,q38⟩:=YM (p:=g.p) (pA:=h.s.pA) (t:=h.t) (Og:=h.hP) (pC:=h.pC) (Oi:=h.sP) h32
 unfold Fq.L at HR
 generalize h.rg.getD (8*mu+r) 0=v at*
 refine BO 17 func142 O (AP (D9 H O O fun p3 _ H=>kG ?_))
 refine jW ?_
 refine BI O Qs (BG (HR.same H.only) 0 O O q38 Zi (dK ?_))
 refine A8 ?_
 refine G5 mixed ?_;replace H:=H.drew
 refine fK ?_
 refine nI ?_
 refine BL H O (hG ((HR.same H.only).RS 0 O)) (apq O) fun W1 H=>ak ?_
 refine dY ?_
 refine CU (AX (BM (aX ?_)))
 exact⟨rfl,H.only⟩
theorem anM(hE:Dj (h.L g d) w)(h32:h.rg.length=32)(mu r:Nat)(hmu:mu<4)(hr:r<8)(h0:h.rg.getD (8*mu+r) 0=0):Calls prog 142 [ptr h.pH,.agg [.int .i64 mu,.int .i64 r].toArray].toArray w fun e w'=>e= .returned (.tuple #[.int .i64 0,.int .i64 6])∧Only [] w w':=by
 have HR:=Heap.start hE
 have H:=Heap.nil w
 have hG:=fun{W:World} hE=>anJ (w:=W) (b:=h.pH) (p:=g.p) (pA:=h.s.pA) (t:=h.t) (Og:=h.hP) (pC:=h.pC) (Oi:=h.sP) (R:=h.rg) hE h32 mu r hmu hr h0
 obtain⟨q35,q36,q37,q38⟩:=YM (p:=g.p) (pA:=h.s.pA) (t:=h.t) (Og:=h.hP) (pC:=h.pC) (Oi:=h.sP) h32
 unfold Fq.L at HR
 refine BO 17 func142 O (AP (D9 H O O fun p3 _ H=>kG ?_))
 refine jW ?_
 refine BI O Qs (BG (HR.same H.only) 0 O O q38 Zi (dK ?_))
 refine A8 ?_
 refine G5 mixed ?_;replace H:=H.drew
 refine fK ?_
 refine nI ?_
 refine BL H O (hG ((HR.same H.only).RS 0 O)) (apq O) fun W1 H=>ak ?_
 refine dY ?_
 refine CU (AX (BM (aX ?_)))
 exact⟨rfl,H.only⟩
theorem abE(hE:Dj (h.L g d) w)(h32:h.rg.length=32)(mu r:Nat)(hmu:mu<4)(hr:r<8):Calls prog 40 [ptr h.pH,.agg [.int .i64 mu,.int .i64 r].toArray].toArray w fun e w'=>e= .returned (.int .i64 0)∧Heap w (ids (h.L g d)) (Fq.L g d {h with rg:=h.rg.set (8*mu+r) 0}) w':=by
 have H:=Heap.start hE
 have hG:=fun{W:World} hE=>ae1 (w:=W) (b:=h.pH) (p:=g.p) (pA:=h.s.pA) (t:=h.t) (Og:=h.hP) (pC:=h.pC) (Oi:=h.sP) (R:=h.rg) hE h32 mu r hmu hr 0 Y
 obtain⟨q35,q36,q37,q38⟩:=YM (p:=g.p) (pA:=h.s.pA) (t:=h.t) (Og:=h.hP) (pC:=h.pC) (Oi:=h.sP) h32
 generalize ids (h.L g d)=I at*
 unfold Fq.L at H⊢
 refine BO 14 func40 O (AP (D9 H O O fun p3 _ H=>AY O (AO (jW ?_))))
 refine BI O Qs (BG H 1 O O q38 Zi (dK ?_))
 refine A8 ?_
 refine G5 mixed ?_;replace H:=H.drew
 refine fK ?_
 refine nI ?_
 refine s_call O (hG (H.RS 1 O)) (amP O) ?_
 rintro e W1 ⟨rfl,H'⟩
 refine⟨_,rfl,?_⟩
 have H:=H.at 1 rfl H' (fun i hi=>hi);clear H';simp only[Bv]at H
 refine ak ?_
 refine EC 5 O O O (fun _ hS=>DK (v:= .int _ _) O) trivial (CU (AX (BM (aK ?_))))
 exact⟨rfl,H.drop⟩
theorem agW(hE:Dj (h.L g d) w)(hO:F6 d m n id h)(mu r:Nat)(hmu:mu<4)(hr:r<8)(a:Nat)(ha:a<8)(v:Int)(hv:h.V.getD a 0=v):Calls prog 69 [ptr h.pH,.agg [.int .i64 mu,.int .i64 r].toArray,.int .i64 a].toArray w fun e w'=>e= .returned (.int .i64 0)∧Heap w (ids (h.L g d)) (Fq.L g d {h with rg:=h.rg.set (8*mu+r) v}) w':=by
 have H:=Heap.start hE
 have h32:=hO.r32
 have hv0:0≤v:=by
  rw[←hv,BN,Ba (by rw[hO.V8.1];exact ha)]
  exact(hO.V8.2 _ (KH _)).1
 have hG:=fun{W:World} hE=>ae1 (w:=W) (b:=h.pH) (p:=g.p) (pA:=h.s.pA) (t:=h.t) (Og:=h.hP) (pC:=h.pC) (Oi:=h.sP) (R:=h.rg) hE h32 mu r hmu hr v hv0
 have hTg:=fun{W:World} hE=>av9 h.t g.p h.E h.k h.R h.V a W hE hO.dev.R8.1 hO.V8.1
 rw[if_pos ⟨Y,Y⟩,BJ,hv]at hTg
 obtain⟨q35,q36,q37,q38⟩:=YM (p:=g.p) (pA:=h.s.pA) (t:=h.t) (Og:=h.hP) (pC:=h.pC) (Oi:=h.sP) h32
 generalize ids (h.L g d)=I at*
 unfold Fq.L at H⊢
 refine BO 33 func69 O (AP (D9 H O O fun p4 _ H=>AY O (uj ?_)))
 refine BI O TK (BG H 1 O O O Y9 (AQ O (BL H O (hTg (H.RS 3 O)) (atZ O) fun W1 H=>jP ?_)))
 refine uy ?_
 refine AQ O (AV (Dc O O Y) (uO ?_))
 refine A8 ?_
 refine G5 mixed ?_;replace H:=H.drew
 refine fK ?_
 refine iW ?_
 refine BD 3 O (vU ?_)
 refine oW ?_
 refine s_call O (hG (H.RS 1 O)) (amP O) ?_
 rintro e W1 ⟨rfl,H'⟩
 refine⟨_,rfl,?_⟩
 have H:=H.at 1 rfl H' (fun i hi=>hi);clear H';simp only[Bv]at H
 refine ak ?_
 refine kS ?_
 exact⟨rfl,H.drop⟩
theorem akB(hE:Dj (h.L g d) w)(hO:F6 d m n id h)(mu r:Nat)(hmu:mu<4)(hr:r<8)(a:Int)(ha:Ee h.s.U a=true):Calls prog 104 [ptr h.pH,.agg [.int .i64 mu,.int .i64 r].toArray,.int .i64 a].toArray w fun e w'=>∃(M':KF) (zs:List Int),Tz (512*n) 3 h.s.U h.M M' zs∧e= .returned (.int .i64 0)∧Heap w (ids (h.L g d)) (Fq.L g d {h with rg:=h.rg.set (8*mu+r) a,M:=M'}) w':=by
 have H:=Heap.start hE
 have h32:=hO.r32
 have h0:0≤a:=(NZ ha).1
 have hRi:=fun W=>Yf mu r W hmu hr
 have XF:=fun{W:World} hE=>abq (g:=g) (s:=h.s) (w:=W) hE hO.al.su a
 rw[ha]at XF
 generalize ids (h.L g d)=I at*
 have hSt:=fun{W:World} hE=>acC (g:=g) (h:=h) (w:=W) hE hO a
 have hG:=fun{W:World} hE=>ae1 (w:=W) (b:=h.pH) (p:=g.p) (pA:=h.s.pA) (t:=h.t) (Og:=h.hP) (pC:=h.pC) (Oi:=h.sP) (R:=h.rg) hE h32 mu r hmu hr _ h0
 obtain⟨q35,q36,q37,q38⟩:=YM (p:=g.p) (pA:=h.s.pA) (t:=h.t) (Og:=h.hP) (pC:=h.pC) (Oi:=h.sP) h32
 refine BO 36 func104 O (AP (D9 H O O fun p4 _ H=>AY O (uy ?_)))
 refine vU ?_
 refine BL H O (hRi _) (ak' O) fun W1 H=>AV (Ea O) (BH O (AO (DC O (dL ?_))))
 refine BI O ZV (BG H 1 O O O PZ (AQ O (BL H O (XF (H.ar6 2 O)) (UD O) fun W1 H=>AV (Ea O) (uO ?_))))
 refine dL ?_
 refine BI O Yn (BG H 1 O O q36 aiR (AQ O (s_call O (hSt H.drop.ents) (apn O) ?_)))
 rintro e W1 ⟨M',zs,hS,_,rfl,H'⟩
 refine⟨_,rfl,?_⟩
 have H:=(H.order [1,2,3,4,5,6,7,8,0] rfl rfl:Heap w I (Fq.L g d h++ [_]) _).step H' (fun i hi=>hi);clear H'
 refine AO (A8 ?_)
 simp only[Fq.L,EL,Ey]at H
 refine G5 mixed ?_;replace H:=H.drew
 refine uY ?_
 rintro e W1 ⟨rfl,H'⟩
 refine⟨_,rfl,?_⟩
 have H:=H.at 0 rfl H' (fun i hi=>hi);clear H';simp only[Bv]at H
 refine ak ?_
 refine kS ?_
 exact⟨M',zs,hS,rfl,H.BQ [0,1,2,3,4,5,6,7] rfl rfl⟩
theorem ar'(hE:Dj (h.L g d) w)(hO:F6 d m n id h)(mu r:Nat)(hmu:mu<4)(hr:r<8)(i a:Int)(hra:h.rg.getD (8*mu+r) 0=a)(ha:Ee h.s.U a=true)(hi:0≤i∧i<Ob.hq d.cache a):Calls prog 75 [ptr h.pH,.agg [.int .i64 mu,.int .i64 r].toArray,.int .i64 i].toArray w fun e w'=>e= .returned (.tuple #[.int .u64 (Nv.get d.cache (a+(1+Ob.hp d.cache a+i))),.int .i64 0])∧Only [] w w':=by
 subst hra
 have HR:=Heap.start hE
 have H:=Heap.nil w
 have hbd:=hO.bd ha
 have hdl:=hO.dev.len
 have hn:=hO.n40
 have hNd:=fun{W:World} hE=>aaA (g:=g) (d:=d) (h:=h) (w:=W) hE hO.r32 mu r hmu hr Y
 have hDa:=fun{W:World} hE=>ahx (g:=g) (d:=d) (w:=W) hE hO.dev.dv.U Y (h.rg.getD (8*mu+r) 0) i (hO.hh _ ha) hi
 generalize h.rg.getD (8*mu+r) 0=a at*
 refine BO 28 func75 O (AP (D9 H O O fun p4 _ H=>kG ?_))
 refine AP (Bg O (vU ?_))
 refine BL H O (hNd (HR.same H.only).ents) (ada O) fun W1 H=>pG ?_
 refine dL ?_
 refine BI O Rh (BG (HR.same H.only) 0 O O O J7 (AQ O (AQ O (BL H O (hDa ((HR.same H.only).abu 1 O)) (aiN O) fun W1 H=>tV ?_))))
 exact⟨rfl,H.only⟩
theorem apc(hE:Dj (h.L g d) w)(hO:F6 d m n id h)(mu r:Nat)(hmu:mu<4)(hr:r<8)(i:Int)(h0:h.rg.getD (8*mu+r) 0=0):Calls prog 75 [ptr h.pH,.agg [.int .i64 mu,.int .i64 r].toArray,.int .i64 i].toArray w fun e w'=>e= .returned (.tuple #[.int .u64 0,.int .i64 6])∧Only [] w w':=by
 have HR:=Heap.start hE
 have H:=Heap.nil w
 have hNd:=fun{W:World} hE=>anM (g:=g) (d:=d) (h:=h) (w:=W) hE hO.r32 mu r hmu hr h0
 refine BO 28 func75 O (AP (D9 H O O fun p4 _ H=>kG ?_))
 refine AP (Bg O (vU ?_))
 refine BL H O (hNd (HR.same H.only).ents) (ada O) fun W1 H=>jP ?_
 refine AO (iQ ?_)
 refine AV (Jr O O Y) (oV ?_)
 refine AQ O (nC ?_)
 exact⟨rfl,H.only⟩
theorem aq9(hE:Dj (h.L g d) w)(hO:F6 d m n id h)(mu r q:Nat)(hmu:mu<4)(hr:r<8)(hq:q<8)(i a:Int)(hra:h.rg.getD (8*mu+r) 0=a)(ha:Ee h.s.U a=true)(hi:0≤i∧i<Ob.hp d.cache a):Calls prog 76 [ptr h.pH,.agg [.int .i64 mu,.int .i64 q].toArray,.agg [.int .i64 mu,.int .i64 r].toArray,.int .i64 i].toArray w fun e w'=>e= .returned (.int .i64 0)∧Heap w (ids (h.L g d)) (Fq.L g d {h with rg:=h.rg.set (8*mu+q) (Ob.UL d.cache (a+(1+i)))}) w':=by
 subst hra
 have H:=Heap.start hE
 have h32:=hO.r32
 have hbd:=hO.bd ha
 have hdl:=hO.dev.len
 have hn:=hO.n40
 have hpb:=Ob.agD hO.dev.dv.U (h.rg.getD (8*mu+r) 0+(1+i))
 have hRi:=fun W=>Yf mu q W hmu hq
 have hNd:=fun{W:World} hE=>aaA (g:=g) (d:=d) (h:=h) (w:=W) hE h32 mu r hmu hr Y
 have hPt:=fun{W:World} hE=>agv (g:=g) (d:=d) (w:=W) hE hO.dev.dv.U Y (h.rg.getD (8*mu+r) 0) i (hO.hh _ ha) hi
 generalize h.rg.getD (8*mu+r) 0=a at*
 generalize Ob.UL d.cache (a+(1+i))=v at*
 have hG:=fun{W:World} hE=>ae1 (w:=W) (b:=h.pH) (p:=g.p) (pA:=h.s.pA) (t:=h.t) (Og:=h.hP) (pC:=h.pC) (Oi:=h.sP) (R:=h.rg) hE h32 mu q hmu hq v Y
 generalize ids (h.L g d)=I at*
 refine BO 45 func76 O (AP (D9 H O O fun p5 _ H=>D9 H O O fun p6 _ H=>sZ ?_))
 refine vU ?_
 refine BL H O (hNd H.drop.drop.ents) (ada O) fun W1 H=>jP ?_
 refine AO (A8 (E8 (AP (AQ O (AV (Dc O O Y) (BH O (AO (DC O (AP (Dw H 1 O O O OT NW (BL H O (hRi _) (ak' O) fun W1 H=>AV (Ea O) (uO ?_))))))))))))
 refine dL ?_
 refine BI O Rh (BG H 2 O O O J7 (AQ O (AQ O (BL H O (hPt (H.abu 3 O)) (acS O) fun W1 H=>pG ?_))))
 refine A8 ?_
 simp only[Fq.L]at H
 refine G5 mixed ?_;replace H:=H.drew
 refine fK ?_
 refine iW ?_
 refine BD 3 O (Dw H 1 O O O OT NW (oW ?_))
 refine s_call O (hG (H.RS 2 O)) (amP O) ?_
 rintro e W1 ⟨rfl,H'⟩
 refine⟨_,rfl,?_⟩
 have H:=H.at 2 rfl H' (fun i hi=>hi);clear H';simp only[Bv]at H
 refine ak ?_
 refine kS ?_
 exact⟨rfl,H.drop.drop⟩
end
end
end
section
section
theorem alX(ws:Nat)(m:Nat)(x:Int):Nv.get (Nv.load (List.replicate ws 0) m).cache x=0:=by
 unfold Nv.get
 split
 ·show(List.replicate ws (0:Int)).getD _ 0=0
  simp only[List.getD,Ew];split<;>rfl
 ·rfl
theorem afg(ws:List Int)(m j:Nat):UU (Nv.load ws m) j=false:=adg m j
theorem Dv.load{ws:List Int}{m:Nat}(hl:ws.length=8*m)(hw:Ob.Qv ws):Dv (Nv.load ws m) m:=⟨Nv.Inv.load ws m hl,⟨rfl,rfl⟩,hw⟩
theorem YW(l ws:List Int)(a:Nat)(hw:ws.length=16)(h:∀i:Nat,i<16→Nv.get l ((a:Int)+(i:Int))=ws.getD i 0):EN l a 16=ws:=by
 rw[VT]
 apply JK (by simp[hw])
 intro i h1 h2
 rw[Yy,W9,h i (by simpa using h1),BN,Ba h2];rfl
theorem afF(l ws:List Int):∀k,k≤ws.length→(∀i:Nat,i<k→Nv.get l (i:Int)=ws.getD i 0)→gets l k=ws.take k
 |0,_,_=>rfl
 |k+1,hk,h=>by
  rw[gets,afF l ws k Y (fun i hi=>h i Y),h k Y,J8,BN,Ba Y];rfl
theorem amM:Rts zr8:=⟨rfl,by
 intro r hr
 simp[zr8]at hr
 subst hr;omega⟩
theorem KR.format{d d1 d2 d':Nv.D}{m n:Nat}{id:Int}(hm:m=64*n)(hn:2≤n∧n≤256)(hid:Ui id)(hz:∀x,Nv.get d.cache x=0)(hc:∀j,UU d j=false)(h1:Lay d d1 m 257 (n-1) fun x=>Bh.enc 0 0 0 (257+x))(h2:Lay d1 d2 m 64 16 fun x=>(J3 1 zr8).getD x 0)(h3:Lay d2 d' m 0 8 fun x=>(YL n id).getD x 0):
 KR d' m n id (List.replicate n (0,0,0)) 0 1 zr8∧(∀j,UU d' j=false)∧∀x:Int,512≤x→Nv.get d'.cache x=0:=by
 have e1:EN d'.cache 64 16=J3 1 zr8:=YW _ _ 64 (aby _ _) fun i hi=>by
  rw[h3.o _ Y]
  have:=h2.i i hi
  rw[←this];congr 1
 have e2:EN d'.cache 128 16=[0,0,0,0,0,0,0,0,0,0,0,0,0,0,0,0]:=YW _ _ 128 rfl fun i hi=>by
  rw[h3.o _ Y,h2.o _ Y,h1.o _ Y,hz]
  rw[show [0,0,0,0,0,0,0,0,0,0,0,0,0,0,0,(0:Int)]=List.replicate 16 0 from rfl]
  simp only[List.getD,Ew];split<;>rfl
 obtain⟨k1,k2,k3⟩:=Rt 1 zr8 Y amM
 have hk:UR (J3 1 zr8) [0,0,0,0,0,0,0,0,0,0,0,0,0,0,0,0]=0:=by
  unfold UR;rw[if_pos ⟨k1,.inl anB⟩]
 obtain⟨c1,c2⟩:=ch0 hk
 refine⟨⟨h3.D,hm,hn,hid,?_,⟨?_,fun b x hb hx=>?_⟩,J,?_,by rw[e1,e2,hk];rfl,by rw[e1,e2,c1,k2],by rw[e1,e2,c2,k3],.inl O,Y,amM⟩,fun j=>h3.k j (h2.k j (h1.k j (hc j))),fun x hx=>?_⟩
 ·have:=afF d'.cache (YL n id) 8 (by show 8≤8;omega) fun i hi=>by
   have:=h3.i i hi
   rw[show((i:Nat):Int)=((0+i:Nat):Int)by omega];exact this
  rw[this];exact Fp (by show 8≤8;omega)
 ·rw[Ew,if_pos Y]
 ·rw[Ew]at hx
  split at hx
  ·injection hx with hx
   subst hx
   refine⟨Bh.EI _ _ _ (.inl ⟨rfl,rfl,rfl⟩),?_⟩
   rw[h3.o _ Y,h2.o _ Y]
   have:=h1.i (b-1) Y
   rw[show(256:Int)+(b:Int)=((257+(b-1):Nat):Int)by omega,this]
   rw[show(257:Int)+((b-1:Nat):Int)=256+(b:Int)by omega]
   rw[show((257+(b-1):Nat):Int)=256+(b:Int)by omega]
  ·cases hx
 ·intro x hx
  exact .inl (Hq hx)
 ·rw[h3.o _ Y,h2.o _ Y,h1.o _ Y,hz]
theorem Dv.atn{d:Nv.D}{m a:Nat}(h:Dv d m)(ha:a+16≤8*m)(E:Int):∃d',Nv.wi d m a E=(d',0)∧Dv d' m∧(∀x:Int,¬((a:Int)≤x∧x<a+16)→Nv.get d'.cache x=Nv.get d.cache x)∧∀j,UU d j=false→UU d' j=false:=by
 unfold Nv.wi
 split
 ·exact⟨d,rfl,h,fun _ _=>rfl,fun _ h=>h⟩
 ·obtain⟨d1,e1,s1⟩:=h.stored (a:=a) (v:=0) Y Y
  obtain⟨d2,e2,s2⟩:=s1.D.stored (a:=a+8) (v:=0) Y Y
  have w1:Nv.Ju d m a 1=(d1,0):=by
   rw[Nv.VI d m a 0 rfl,←e1];congr 1
  have w2:Nv.Ju d m a 2=(d2,0):=by
   rw[Nv.VI d m a 1 (by rw[w1]),w1,←e2];congr 1
  obtain⟨d3,e3,p3⟩:=s2.D.persisted (a:=a) (n:=16) Y
  have g1:=s1.get Y h.len
  have g2:=s2.get Y s1.D.len
  rw[w2,if_pos rfl]
  refine⟨d3,e3,p3.D,fun x hx=>by rw[p3.c,g2,if_neg Y,g1,if_neg Y],fun j hj=>?_⟩
  by_cases c1:j=a/8
  ·rw[c1];exact p3.q a (BF _) Y
  ·by_cases c2:j=(a+8)/8
   ·rw[c2];exact p3.q (a+8) Y Y
   ·exact p3.k j (by rw[s2.k j c2,s1.k j c1];exact hj)
theorem KR.commit{d:Nv.D}{m n k:Nat}{id E:Int}{hs:List Ob.H3}{R V:List Int}(h:KR d m n id hs k E R)(hV:Rts V)(hE:E≤999):
 ∃d',Nv.cm d m E k (J3 (E+1) V)=(d',0)∧KR d' m n id hs (1-k) (E+1) V∧(∀x:Int,256≤x→Nv.get d'.cache x=Nv.get d.cache x)∧∀j,UU d j=false→UU d' j=false:=by
 have hk:=h.k1
 have hm:=h.hm
 have hn:=h.n2
 have hE1:=h.E1
 obtain⟨d1,e1,D1,o1,k1⟩:=h.dv.atn (a:=64+64*(1-k)) Y E
 obtain⟨d2,e2,L⟩:=D1.wr (a:=64+64*(1-k)) Y (ws:=J3 (E+1) V) fun i _=>adJ (apy (E+1) V ⟨Y,Y⟩) i
 have o:∀x:Int,¬(((64+64*(1-k):Nat):Int)≤x∧x<((64+64*(1-k):Nat):Int)+16)→Nv.get d2.cache x=Nv.get d.cache x:=fun x hx=>by rw[L.o x Y,o1 x hx]
 have hcm:Nv.cm d m E k (J3 (E+1) V)=(d2,0):=by
  unfold Nv.cm
  rw[if_neg Y,e1,if_pos rfl];exact e2
 have hnew:EN d2.cache (64+64*(1-k)) 16=J3 (E+1) V:=YW _ _ _ (aby _ _) fun i hi=>by
  have:=L.i i hi
  rw[←this];congr 1
 have hold:EN d2.cache (64+64*k) 16=EN d.cache (64+64*k) 16:=N8 16 fun x hx=>o _ Y
 obtain⟨y1,y2,y3⟩:=Rt (E+1) V Y hV
 refine⟨d2,hcm,⟨L.D,hm,hn,h.hid,(TQ 8 fun x hx=>o _ Y).trans h.su,⟨h.hd.h0,fun b x hb hx=>?_⟩,h.hl,h.sm,?_,?_,?_,Y,Y,hV⟩,fun x hx=>o x Y,fun j hj=>L.k j (k1 j hj)⟩
 ·have:=h.hd.at_ b x hb hx
  exact⟨this.1,by rw[o _ Y];exact this.2⟩
 all_goals
  have ck:=h.ck
  have ce:=h.ce
  rcases hk with rfl|rfl
  ·obtain⟨a1,a2⟩:=ch0 (a:=EN d.cache 64 16) (b:=EN d.cache 128 16) (by rw[ck];rfl)
   have hd:dC (EN d.cache 64 16)=0:=by
    unfold UR at ck
    split at ck
    ·rename_i h;exact h.1
    ·split at ck<;>cases ck
   have eA:EN d2.cache 64 16=EN d.cache 64 16:=hold
   have eB:EN d2.cache 128 16=J3 (E+1) V:=hnew
   have hK:UR (EN d.cache 64 16) (J3 (E+1) V)=1:=by
    unfold UR
    rw[if_neg,if_pos y1]
    rintro⟨_,h2|h2⟩
    ·exact h2 y1
    ·rw[y2,←a1,ce]at h2;omega
   obtain⟨b1,b2⟩:=ch1 hK
   rw[eA,eB]
   first|rw[hK];rfl|rw[b1,y2]|rw[b2,y3]
  ·obtain⟨a1,a2⟩:=ch1 (a:=EN d.cache 64 16) (b:=EN d.cache 128 16) (by rw[ck];rfl)
   have eA:EN d2.cache 64 16=J3 (E+1) V:=hnew
   have eB:EN d2.cache 128 16=EN d.cache 128 16:=hold
   have hK:UR (J3 (E+1) V) (EN d.cache 128 16)=0:=by
    unfold UR
    rw[if_pos ⟨y1,.inr (by rw[y2,←a1,ce];omega)⟩]
   obtain⟨b1,b2⟩:=ch0 hK
   rw[eA,eB]
   first|rw[hK];rfl|rw[b1,y2]|rw[b2,y3]
end
end
end Go.Proofs.YtppilhpcmkekbaaGreat
