/- Parts of the proof. -/
import Derived.Test.YtppilhpcmkekbaaGreatKTopBothr
set_option linter.unusedSimpArgs false
set_option linter.unusedVariables false
set_option linter.unusedSectionVars false
set_option maxRecDepth 100000
set_option maxHeartbeats 16000000
namespace Go.Proofs.YtppilhpcmkekbaaGreat
open Go.Proofs.Tryz
section
section
open Go.RowKit
theorem Heap.tab{w0 W:World}{F:List Nat}{L:List FU}{g:Geo}{d:Nv.D}{s:IX}{b:Nat}{c:List Value}{T:TypeId}(H:Heap w0 F (grp (TF g d s)::blk b c T::L) W):Heap w0 F ([blk b c T,grp (Dy g d)]++(s.L g++L)) W:=
 H.acn.perm (O3 (l₁:=grp (Dy g d)::s.L g) (a:=blk b c T) (l₂:=L))
theorem Heap.amb{w0 W:World}{F:List Nat}{L:List FU}{g:Geo}{d:Nv.D}{s:IX}{b:Nat}{c:List Value}{T:TypeId}(H:Heap w0 F ([blk b c T,grp (Dy g d)]++(s.L g++L)) W):Heap w0 F (grp (TF g d s)::blk b c T::L) W:=
 Heap.afj (A:=TF g d s) (L:=blk b c T::L) (H.perm (O3 (l₁:=grp (Dy g d)::s.L g) (a:=blk b c T) (l₂:=L)).symm)
theorem Heap.aqK{w0 W:World}{F:List Nat}{L:List FU}{E X:FU}(H:Heap w0 F (E::L) W)(j:Nat)(hj:L[j]? =some X):∀i∈E.ids,i∉X.ids:=fun i hi hx=>by
 have hnd:=H.nd
 rw[Ep]at hnd
 exact(C9.1 hnd).2.2 i hi i (Nl.2 ⟨X,BP hj,hx⟩) rfl
def alQ(s:IX)(hs':List Ob.H3)(S' E':IL)(F':Nat→EP)(KP:Vf)(a:Nat):IX:={s with hs:=hs',S:=S',E:=E',F:=F',FL:=KP,U:=Bm.put s.U a true}
section
variable{g:Geo}{d:Nv.D}{m n:Nat}{id:Int}{h:Fq}{w:World}
theorem aeb(hE:Dj (h.L g d) w)(hO:F6 d m n id h)(hg:Q5 g m)(mu r:Nat)(hmu:mu<4)(hr:r<8)(p q:Int)(z k:Nat)(hM:h.s.M k=mu)(hp:0≤p∧p≤63)(hq:0≤q∧q≤16384)(hz:(z:Int)=1+p+q)(hb:Cl.ofB z=true)(hk:Cl.Yo z=k)(hroom:lk h.s.F k≠0∨∃b:Nat,QY h.s.hs h.s.n b):
 Calls prog 27 [ptr h.pH,.agg [.int .i64 mu,.int .i64 r].toArray,.int .i64 p,.int .i64 q].toArray w fun e w'=>∃d' hs' S' E' F' KP a,TJ m h.s (512*n) p q z k d d' hs' S' E' F' KP a∧GK d'.cache (alQ h.s hs' S' E' F' KP a) (512*n) (fun _=>False)∧e= .returned (.int .i64 0)∧Heap w (ids (h.L g d)) (Fq.L g d' {h with s:=alQ h.s hs' S' E' F' KP a,rg:=h.rg.set (8*mu+r) (a:Nat),sL:=Bm.put h.sL (a:Nat) false,M:=NM h.ph h.M a}) w':=by
 have H:=Heap.start hE
 have h32:=hO.r32
 have hm:=hO.dev.hm
 have hn:=hO.n40
 have hRi:=fun W=>Yf mu r W hmu hr
 have hAl:=fun{W:World} hE=>aon g d m h.s (512*n) p q z k W hE hO.dev.dv hg Y hO.al Y mu hM hp hq hz hb hk hroom
 obtain⟨q35,q36,q37,q38⟩:=YM (p:=g.p) (pA:=h.s.pA) (t:=h.t) (Og:=h.hP) (pC:=h.pC) (Oi:=h.sP) h32
 generalize ids (h.L g d)=I at*
 unfold Fq.L at H
 refine BO 55 func27 O (AP (D9 H O O fun p5 _ H=>AY O (uy ?_)))
 refine vU ?_
 refine BL H O (hRi _) (ak' O) fun W1 H=>AV (Ea O) (uO ?_)
 refine A8 ?_
 refine Gl (fun f W=>∃d' hs' S' E' F' KP a,TJ m h.s (512*n) p q z k d d' hs' S' E' F' KP a∧f 0=ptr h.pH∧f 5=ptr p5∧f 9= .int .i64 (a:Nat)∧f 10= .int .i64 0∧Heap w I (blk p5 [.int .i64 mu,.int .i64 r] 72::Fq.L g d' {h with s:=alQ h.s hs' S' E' F' KP a}) W) ?_ ?_
 ·refine G5 mixed ?_;replace H:=H.drew
  refine bg ?_
  refine CZ 2 O O O (fun _ hS=>Cm O ZV) trivial (CZ 4 O O O (fun _ hS=>Cm O abD) trivial (qy ?_))
  refine CZ 7 O O O (fun _ hS=>Cc (v:= .int _ _) O) trivial ?_
  refine Et 3 5 ?_ ?_
  ·refine CB O (BG H 1 O O O PZ (oW ?_))
   refine fV ?_
   refine rY ?_
   refine s_call O (hAl (H.Bl 2 O)) (avL O) ?_
   rintro e W1 ⟨d',hs',S',E',F',KP,a,hP,rfl,H'⟩
   refine⟨_,rfl,?_⟩
   have H:=H.CX 2 rfl H';clear H';simp only[Bv]at H
   refine ak ?_
   refine lD ?_
   refine CU (Dp ?_)
   exact⟨d',hs',S',E',F',KP,a,hP,rfl,rfl,rfl,rfl,H⟩
  ·refine CB O (fV ?_)
   refine lY ?_
   refine BG H 1 O O O PZ (rY ?_)
   refine s_call O (hAl (H.Bl 2 O)) (avL O) ?_
   rintro e W1 ⟨d',hs',S',E',F',KP,a,hP,rfl,H'⟩
   refine⟨_,rfl,?_⟩
   have H:=H.CX 2 rfl H';clear H';simp only[Bv]at H
   refine ak ?_
   refine lD ?_
   refine CU (Dp ?_)
   exact⟨d',hs',S',E',F',KP,a,hP,rfl,rfl,rfl,rfl,H⟩
 clear H
 rintro f W ⟨d',hs',S',E',F',KP,a,hP,f0,f5,f9,f10,H⟩
 obtain⟨f,rfl⟩:=Jj f0 f5 f9 f10
 clear f0 f5 f9 f10
 have hDr:=fun{W:World} hE=>apu (p:=h.sP) hO.ss W hE (a:Nat)
 have hG:=fun{W:World} hE=>ae1 (w:=W) (b:=h.pH) (p:=g.p) (pA:=h.s.pA) (t:=h.t) (Og:=h.hP) (pC:=h.pC) (Oi:=h.sP) (R:=h.rg) hE h32 mu r hmu hr (a:Nat) Y
 have hsn:=hO.sn
 have hal:GK d'.cache (alQ h.s hs' S' E' F' KP a) (512*n) (fun _=>False):=by
  have:=hP.al.norm (H.Bl 2 rfl)
  rw[show(512:Nat)*n=512*(alQ h.s hs' S' E' F' KP a).n by show 512*n=512*h.s.n;rw[hsn]]
  exact this
 have hMd:=fun{W:World} hE=>apd (g:=g) (d:=d') (h:={h with s:=alQ h.s hs' S' E' F' KP a}) (w:=W) hE hO.mg (a:Nat)
 refine AX (gI ?_)
 refine dL ?_
 refine BI O Yn (BG H 1 O O q36 aiR (AQ O (s_call O (hMd H.drop.ents) (awp O) ?_)))
 rintro e W1 ⟨rfl,H'⟩
 refine⟨_,rfl,?_⟩
 have H:=(H.order [1,2,3,4,5,6,7,8,0] rfl rfl:Heap w I (Fq.L g d' _++ [_]) _).step H' (fun i hi=>hi);clear H'
 refine AO (A8 ?_)
 simp only[Fq.L,EL,Ey]at H
 refine jw ?_
 refine BI O adD (BG H 0 O O q37 Ig (AQ O (s_call O (hDr (H.Bl 5 O)) (auz O) ?_)))
 rintro e W1 ⟨rfl,H'⟩
 refine⟨_,rfl,?_⟩
 have H:=H.CX 5 rfl H';clear H';simp only[Bv]at H
 refine AO (A8 ?_)
 refine G5 mixed ?_;replace H:=H.drew
 refine uY ?_
 rintro e W1 ⟨rfl,H'⟩
 refine⟨_,rfl,?_⟩
 have H:=H.at 0 rfl H' (fun i hi=>hi);clear H';simp only[Bv]at H
 refine ak ?_
 refine kS ?_
 exact⟨d',hs',S',E',F',KP,a,hP,hal,rfl,H.BQ [0,1,2,3,4,5,6,7] rfl rfl⟩
theorem aiJ(hE:Dj (h.L g d) w)(hO:F6 d m n id h)(a:Int):Calls prog 110 [ptr h.pH,.int .i64 a].toArray w fun e w'=>∃(NC:List Bool) (M':KF) (zs:List Int),Gn h.sB h.sA h.sC NC∧Tz (512*n) 3 h.s.U h.M M' zs∧(h.ph=1→a≠0→zs=[a])∧e= .returned (.tuple #[])∧Heap w (ids (h.L g d)) (Fq.L g d {h with sL:=NC,M:=M'}) w':=by
 have H:=Heap.start hE
 have h32:=hO.r32
 obtain⟨q35,q36,q37,q38⟩:=YM (p:=g.p) (pA:=h.s.pA) (t:=h.t) (Og:=h.hP) (pC:=h.pC) (Oi:=h.sP) h32
 have hAd:=fun{W:World} hE=>adT (p:=h.sP) hO.ss W hE a
 have hss:=hO.ss
 generalize ids (h.L g d)=I at*
 by_cases h0:a=0
 ·refine BO 18 func110 O (aj ?_)
  refine fin0 O ?_
  exact⟨h.sL,h.M,[],hss,.refl hO.mg J,fun _ h1=>absurd h0 h1,rfl,H⟩
 ·have aug:=hss.put' a true
  have hO2:F6 d m n id {h with sL:=Bm.put h.sL a true}:=⟨hO.dev,hO.al,hO.sn,hO.n40,hO.V8,hO.r32,hO.rb,hO.hs,hO.hl,aug,hO.mg,hO.zb,hO.zl⟩
  have hSt:=fun{W:World} hE=>acC (g:=g) (h:={h with sL:=Bm.put h.sL a true}) (w:=W) hE hO2 a
  unfold Fq.L at H
  refine BO 18 func110 O (AP (AQ O (AV (Jr O O Y) (AO (EF O (dL ?_))))))
  refine BI O adD (BG H 0 O O q37 Ig (AQ O (s_call O (hAd (H.Bl 5 O)) (ZO O) ?_)))
  rintro e W1 ⟨rfl,H'⟩
  refine⟨_,rfl,?_⟩
  have H:=H.CX 5 rfl H';clear H';simp only[Bv]at H
  refine AO (jw ?_)
  refine BI O Yn (BG H 0 O O q36 aiR (AQ O (s_call O (hSt H.ents) (apn O) ?_)))
  rintro e W1 ⟨M',zs,hS,hz,rfl,H'⟩
  refine⟨_,rfl,?_⟩
  have H:Heap w I _ _:=(show Heap w I (Fq.L g d {h with sL:=Bm.put h.sL a true}) _ from H).whole H';clear H'
  refine AZ (fin0 O ?_)
  exact⟨_,M',zs,aug,hS,fun h1 _=>hz h1,rfl,H⟩
theorem YH(hE:Dj (h.L g d) w)(hO:F6 d m n id h)(mu r:Nat)(hmu:mu<4)(hr:r<8)(i v a:Int)(hra:h.rg.getD (8*mu+r) 0=a)(ha:Ee h.s.U a=true)(hi:0≤i∧i<Ob.hq d.cache a)(hv:0≤v∧v≤18446744073709551615):Calls prog 73 [ptr h.pH,.agg [.int .i64 mu,.int .i64 r].toArray,.int .i64 i,.int .u64 v].toArray w fun e w'=>∃d',ZB d d' m (a+(1+Ob.hp d.cache a+i)).toNat v∧e= .returned (.int .i64 0)∧Heap w (ids (h.L g d)) (h.L g d') w':=by
 subst hra
 have H:=Heap.start hE
 have h32:=hO.r32
 have hm:=hO.dev.hm
 have hn:=hO.n40
 have hbd:=hO.bd ha
 have hNd:=fun{W:World} hE=>aaA (g:=g) (d:=d) (h:=h) (w:=W) hE h32 mu r hmu hr Y
 have hDn:=fun{d:Nv.D} {W:World} hE=>aep (g:=g) (d:=d) (h:=h) (w:=W) hE
 have hSt:=fun{W:World} hE=>ajE (g:=g) (d:=d) (m:=m) (w:=W) hE hO.dev.dv Y (h.rg.getD (8*mu+r) 0) i v (hO.hh _ ha) hi hv
 generalize ids (h.L g d)=I at*
 generalize h.rg.getD (8*mu+r) 0=a at*
 refine BO 30 func73 O (AP (D9 H O O fun p5 _ H=>sZ ?_))
 refine vU ?_
 refine BL H O (hNd H.drop.ents) (ada O) fun W1 H=>pG ?_
 refine AP (uo ?_)
 refine BI O Rh (BG H 1 O O O J7 (AQ O (AQ O (AQ O (s_call O (hSt (H.abu 2 O)) (auU O) ?_)))))
 rintro e W1 ⟨d',hs,rfl,H'⟩
 refine⟨_,rfl,?_⟩
 have H:=H.ah2 2 rfl H';clear H';simp only[Fq.L,Bf,Bd]at H
 refine BL H O (hDn H.drop.ents) (amU O) fun W1 H=>eu ?_
 exact⟨d',hs,rfl,H.drop⟩
theorem ade(hE:Dj (h.L g d) w)(hO:F6 d m n id h)(hg:Q5 g m)(mu r:Nat)(hmu:mu<4)(hr:r<8)(a:Int)(hra:h.rg.getD (8*mu+r) 0=a)(ha:Ee h.s.U a=true):Calls prog 74 [ptr h.pH,.agg [.int .i64 mu,.int .i64 r].toArray].toArray w fun e w'=>∃d',Per d d' m a.toNat (1+Ob.hp d.cache a+Ob.hq d.cache a).toNat∧e= .returned (.int .i64 0)∧Heap w (ids (h.L g d)) (h.L g d') w':=by
 subst hra
 have H:=Heap.start hE
 have h32:=hO.r32
 have hm:=hO.dev.hm
 have hn:=hO.n40
 have hbd:=hO.bd ha
 have hNd:=fun{W:World} hE=>aaA (g:=g) (d:=d) (h:=h) (w:=W) hE h32 mu r hmu hr Y
 have hDn:=fun{d:Nv.D} {W:World} hE=>aep (g:=g) (d:=d) (h:=h) (w:=W) hE
 have hSt:=fun{W:World} hE=>ajA (g:=g) (d:=d) (m:=m) (w:=W) hE hO.dev.dv hg Y (h.rg.getD (8*mu+r) 0) (hO.hh _ ha)
 generalize ids (h.L g d)=I at*
 generalize h.rg.getD (8*mu+r) 0=a at*
 refine BO 24 func74 O (AP (D9 H O O fun p3 _ H=>sZ ?_))
 refine vU ?_
 refine BL H O (hNd H.drop.ents) (ada O) fun W1 H=>pG ?_
 refine AP (uo ?_)
 refine BI O Rh (BG H 1 O O O J7 (AQ O (s_call O (hSt (H.abu 2 O)) (auw O) ?_)))
 rintro e W1 ⟨d',hs,rfl,H'⟩
 refine⟨_,rfl,?_⟩
 have H:=H.ah2 2 rfl H';clear H';simp only[Fq.L,Bf,Bd]at H
 refine BL H O (hDn H.drop.ents) (amU O) fun W1 H=>eu ?_
 exact⟨d',hs,rfl,H.drop⟩
theorem F6.root(hO:F6 d m n id h)(i:Nat){v:Int}(hv:0≤v∧v<131072):F6 d m n id {h with V:=h.V.set i v}:=
 ⟨hO.dev,hO.al,hO.sn,hO.n40,⟨by show(h.V.set i v).length=8;rw[Hz];exact hO.V8.1,fun x hx=>by
  rcases DY hx with h1|rfl
  ·exact hO.V8.2 x h1
  ·omega⟩,hO.r32,hO.rb,hO.hs,hO.hl,hO.ss,hO.mg,hO.zb,hO.zl⟩
theorem VF(hE:Dj (h.L g d) w)(hO:F6 d m n id h)(mu r:Nat)(hmu:mu<4)(hr:r<8)(a:Nat)(ha:a<8)(v:Int)(hrv:h.rg.getD (8*mu+r) 0=v)(hv:0≤v∧v<131072):Calls prog 38 [ptr h.pH,.int .i64 a,.agg [.int .i64 mu,.int .i64 r].toArray].toArray w fun e w'=>∃(NC:List Bool) (M':KF) (zs:List Int),Gn h.sB h.sA h.sC NC∧Tz (512*n) 3 h.s.U h.M M' zs∧e= .returned (.int .i64 0)∧Heap w (ids (h.L g d)) (Fq.L g d {h with V:=h.V.set a v,sL:=NC,M:=M'}) w':=by
 subst hrv
 have H:=Heap.start hE
 have h32:=hO.r32
 have hR8:=hO.dev.R8.1
 have hV8:=hO.V8.1
 have hGt:=fun{W:World} hE=>afZ (w:=W) (b:=h.pH) (p:=g.p) (pA:=h.s.pA) (t:=h.t) (Og:=h.hP) (pC:=h.pC) (Oi:=h.sP) (R:=h.rg) hE h32 mu r hmu hr
 obtain⟨q35,q36,q37,q38⟩:=YM (p:=g.p) (pA:=h.s.pA) (t:=h.t) (Og:=h.hP) (pC:=h.pC) (Oi:=h.sP) h32
 generalize ids (h.L g d)=I at*
 generalize h.rg.getD (8*mu+r) 0=v at*
 have hSt:=fun{W:World} hE=>awV h.t g.p h.E h.k h.R h.V a v W hE hR8 hV8
 rw[if_pos ⟨Y,Y,hv.1,hv.2⟩,if_pos ⟨Y,Y,hv.1,hv.2⟩,BJ]at hSt
 have hSh:=fun{W:World} hE=>aiJ (g:=g) (d:=d) (h:={h with V:=h.V.set a v}) (w:=W) hE (hO.root a hv) v
 unfold Fq.L at H
 refine BO 40 func38 O (AP (D9 H O O fun p5 _ H=>AY O (AO (A8 ?_))))
 refine Gl (fun f W=>f 0=ptr h.pH∧f 1= .int .i64 a∧f 7= .int .i64 v∧f 8= .int .i64 0∧Heap w I (Fq.L g d h) W) ?_ ?_
 ·refine G5 mixed ?_;replace H:=H.drew
  refine bg ?_
  refine CZ 2 O O O (fun _ hS=>Cm O NQ) trivial (nI ?_)
  refine BL H O (hGt (H.RS 1 O)) (agm O) fun W1 H=>ak ?_
  refine iU ?_
  refine CU (Dp ?_)
  exact⟨rfl,rfl,rfl,rfl,H.drop⟩
 clear H
 rintro f W ⟨f0,f1,f7,f8,H⟩
 obtain⟨f,rfl⟩:=Jj f0 f1 f7 f8
 clear f0 f1 f7 f8
 unfold Fq.L at H
 refine AX (A8 (E8 (dL ?_)))
 refine BI O Qs (BG H 0 O O q38 Zi (BH O (AO (DC O (AP (AQ O (AV (Dc O O Y) (uO ?_))))))))
 refine jW ?_
 refine BI O TK (BG H 0 O O O Y9 (AQ O (AQ O (s_call O (hSt (H.RS 2 O)) (asT O) ?_))))
 rintro e W1 ⟨rfl,H'⟩
 refine⟨_,rfl,?_⟩
 have H:=H.at 2 rfl H' (fun i hi=>hi);clear H';simp only[Bv]at H
 refine vH ?_
 refine eH ?_
 refine s_call O (hSh H.ents) (aqk O) ?_
 rintro e W1 ⟨NC,M',zs,hss,hS,_,rfl,H'⟩
 refine⟨_,rfl,?_⟩
 have H:Heap w I _ _:=(show Heap w I (Fq.L g d {h with V:=h.V.set a v}) _ from H).whole H';clear H'
 refine AO (uP ?_)
 exact⟨NC,M',zs,hss,hS,rfl,H⟩
theorem aiB(hE:Dj (h.L g d) w)(hO:F6 d m n id h)(mu r q:Nat)(hmu:mu<4)(hr:r<8)(hq:q<8)(i a v:Int)(hra:h.rg.getD (8*mu+r) 0=a)(hqv:h.rg.getD (8*mu+q) 0=v)(ha:Ee h.s.U a=true)(hi:0≤i∧i<Ob.hp d.cache a)(hv:0≤v∧v<131072):Calls prog 72 [ptr h.pH,.agg [.int .i64 mu,.int .i64 r].toArray,.int .i64 i,.agg [.int .i64 mu,.int .i64 q].toArray].toArray w fun e w'=>∃(d':Nv.D) (NC hL':List Bool) (M':KF) (zs:List Int),ZB d d' m (a+(1+i)).toNat v∧Gn h.sB h.sA h.sC NC∧hL'.length=h.hL.length∧Tz (512*n) 3 h.s.U h.M M' zs∧(h.ph=1→v≠0→zs=[v])∧e= .returned (.int .i64 0)∧Heap w (ids (h.L g d)) (Fq.L g d' {h with sL:=NC,hL:=hL',M:=M'}) w':=by
 subst hra hqv
 have H:=Heap.start hE
 generalize ids (h.L g d)=I at*
 have h32:=hO.r32
 have hm:=hO.dev.hm
 have hn:=hO.n40
 have hdl:=hO.dev.len
 have hbd:=hO.bd ha
 obtain⟨q35,q36,q37,q38⟩:=YM (p:=g.p) (pA:=h.s.pA) (t:=h.t) (Og:=h.hP) (pC:=h.pC) (Oi:=h.sP) h32
 have hhd:=hO.hh _ ha
 have hNd:=fun{W:World} hE=>aaA (g:=g) (d:=d) (h:=h) (w:=W) hE h32 mu r hmu hr Y
 have hGt:=fun{W:World} hE=>afZ (w:=W) (b:=h.pH) (p:=g.p) (pA:=h.s.pA) (t:=h.t) (Og:=h.hP) (pC:=h.pC) (Oi:=h.sP) (R:=h.rg) hE h32 mu q hmu hq
 have hDn:=fun{h:Fq} {d:Nv.D} {W:World} hE=>aep (g:=g) (d:=d) (h:=h) (w:=W) hE
 generalize h.rg.getD (8*mu+q) 0=v at*
 generalize h.rg.getD (8*mu+r) 0=a at*
 have hPt:=fun{W:World} hE=>agv (g:=g) (d:=d) (w:=W) hE hO.dev.dv.U Y a i hhd hi
 have hSt:=fun{W:World} hE=>alT (g:=g) (d:=d) (m:=m) (w:=W) hE hO.dev.dv Y a i v hhd hi Y
 have hSh:=fun{W:World} hE=>aiJ (g:=g) (d:=d) (h:=h) (w:=W) hE hO v
 have hHs:=fun{W:World} hE=>ave (pA:=h.s.pA) (pH:=h.hP) (pS:=h.hS) (b:=h.hB) (A:=h.hA) (c:=h.hC) (l:=h.hL) (w:=W) hE hO.hs a
 have hAd:=fun{W:World} hE=>apE (g:=g) (d:=d) (s:=h.s) (w:=W) (pH:=h.hP) (pS:=h.hS) (b:=h.hB) (A:=h.hA) (c:=h.hC) (l:=h.hL) hE hO.dev.dv.U Y hO.al.su hO.hh hO.hs v ⟨Y,Y⟩
 refine BO 72 func72 O (AP (D9 H O O fun p5 _ H=>D9 H O O fun p7 _ H=>sZ ?_))
 refine Dw H 1 O O O OT NW (BL H O (hNd H.drop.drop.ents) (ada O) fun W1 H=>pG ?_)
 refine A8 ?_
 refine Gl (fun f W=>f 0=ptr h.pH∧f 2= .int .i64 i∧f 9= .int .i64 a∧f 11= .int .i64 v∧f 10= .int .i64 0∧Heap w I (h.L g d) W) ?_ ?_
 ·refine G5 mixed ?_;replace H:=H.drew
  refine bg ?_
  refine CZ 2 O O O (fun _ hS=>Cm O NQ) trivial (nI ?_)
  refine BL H O (hGt (H.RS 2 O)) (agm O) fun W1 H=>ak ?_
  refine iU ?_
  refine CU (Dp ?_)
  exact⟨rfl,rfl,rfl,rfl,rfl,H.drop.drop⟩
 clear H
 rintro f W ⟨f0,f2,f9,f11,f10,H⟩
 obtain⟨f,rfl⟩:=OJ f0 f2 f9 f11 f10
 clear f0 f2 f9 f11 f10
 refine AX (gI ?_)
 refine jW ?_
 refine BI O Rh (BG H 0 O O O J7 (AQ O (AQ O (BL H O (hPt (H.abu 1 O)) (acS O) fun W1 H=>jP ?_))))
 refine AO (kK ?_)
 refine eH ?_
 refine s_call O (hSh H.ents) (aqk O) ?_
 rintro e W1 ⟨NC,M',zs,hss,hS,hz,rfl,H'⟩
 refine⟨_,rfl,?_⟩
 have H:=H.whole H';clear H';simp only[Fq.L]at H
 refine AO (jW ?_)
 refine BI O XD (BG H 0 O O q35 abB (AQ O ?_))
 cases hb:Ee h.hL a with
 |true=>
  rw[hb]at hHs
  refine BL H O (hHs (H.Bl 3 O)) (apj O) fun W1 H=>AO (EF O (jw ?_))
  refine BI O XD (BG H 0 O O q35 abB (AQ O (s_call O (hAd (H.BQ [1,3] O O).ents) (apw O) ?_)))
  rintro e W1 ⟨hL',z,hst,rfl,H'⟩
  refine⟨_,rfl,?_⟩
  have H:=H.CX 3 rfl H';clear H';simp only[Bv]at H
  refine AO (AP (wL ?_))
  rintro e W1 ⟨d',hs,rfl,H'⟩
  refine⟨_,rfl,?_⟩
  have H:=H.ah2 1 rfl H';clear H';simp only[Bv]at H
  refine BL H O ((hDn (h:={h with sL:=NC,hL:=hL',M:=M'}) H.ents)) (amU O) fun W1 H=>eu ?_
  exact⟨d',NC,hL',M',zs,hs,hss,hst.len,hS,hz,rfl,H⟩
 |false=>
  rw[hb]at hHs
  refine BL H O (hHs (H.Bl 3 O)) (apj O) fun W1 H=>dK ?_
  refine AP (wL ?_)
  rintro e W1 ⟨d',hs,rfl,H'⟩
  refine⟨_,rfl,?_⟩
  have H:=H.ah2 1 rfl H';clear H';simp only[Bv]at H
  refine BL H O ((hDn (h:={h with sL:=NC,M:=M'}) H.ents)) (amU O) fun W1 H=>eu ?_
  exact⟨d',NC,h.hL,M',zs,hs,hss,rfl,hS,hz,rfl,H⟩
theorem Yi(hE:Dj (h.L g d) w)(hO:F6 d m n id h)(hg:Q5 g m)(hE9:h.E≤999):Calls prog 42 [ptr h.pH].toArray w fun e w'=>∃d' l',Nv.cm d m h.E h.k (J3 (h.E+1) h.V)=(d',0)∧l'.length=h.hL.length∧e= .returned (.int .i64 0)∧Heap w (ids (h.L g d)) (Fq.L g d' {h with E:=h.E+1,R:=h.V,k:=1-h.k,hL:=l'}) w':=by
 have H:=Heap.start hE
 have h32:=hO.r32
 have hR8:=hO.dev.R8.1
 have hV8:=hO.V8.1
 have hm:=hO.dev.hm
 have hn:=hO.n40
 have hE1:=hO.dev.E1
 obtain⟨q35,q36,q37,q38⟩:=YM (p:=g.p) (pA:=h.s.pA) (t:=h.t) (Og:=h.hP) (pC:=h.pC) (Oi:=h.sP) h32
 obtain⟨d',ed,hdv,ahe,hcl⟩:=hO.dev.commit hO.V8 hE9
 have hCm:=fun{W:World} hE=>an7 h.t g d m h.k h.E h.R h.V W hE hO.dev.dv.I hg Y hO.dev.k1 ⟨Y,Y⟩ hR8 hV8 hO.V8.i64
 rw[ed]at hCm
 simp only[if_true]at hCm
 have hLa:=fun{W:World} hE=>ae2 h.t g.p (h.E+1) ((1-h.k:Nat):Int) h.V h.V W hE hV8 hV8
 obtain⟨v0,v1,v2,v3,v4,v5,v6,v7,hVv⟩:=Nu hV8
 have hVm:(h.V.map (Value.int .i64))=[.int .i64 v0,.int .i64 v1,.int .i64 v2,.int .i64 v3,.int .i64 v4,.int .i64 v5,.int .i64 v6,.int .i64 v7]:=by rw[hVv];rfl
 rw[hVm]at hLa
 have hal':GK d'.cache h.s (512*n) fun _=>False:=hO.al.words (by rw[hdv.dv.len,hO.dev.dv.len]) (fun x h1 h2=>ahe x Y) fun a ha=>ahe a (by have:=hO.bd ha;omega)
 have hh:∀a,Ee h.s.U a=true→Ob.hd d'.cache a=true:=fun a ha=>(Ob.OW (hal'.us a ha)).2.2
 have hVb:∀x∈h.V,Rq x:=fun x hx=>by
  have:=hO.V8.i64 x hx
  exact this
 have hRs:=fun{W:World} (LA:Option Addr) hE hQ=>adx (g:=g) (d:=d') (s:=h.s) (w:=W) (pH:=h.hP) (pS:=h.hS) (b:=h.hB) (A:=h.hA) (c:=h.hC) (l:=h.hL) hE hdv.dv.U (by rw[hdv.dv.len];omega) hO.al.su hh hO.hs LA 8 8 h.V hQ hV8 Y hVb
 generalize ids (h.L g d)=I at*
 unfold Fq.L at H
 refine BO 30 func42 O (oM ?_)
 refine jW ?_
 refine BI O Qs (BG H 0 O O q38 Zi (dK ?_))
 refine jW ?_
 refine BI O TK (BG H 0 O O O Y9 (s_call O (hCm (Heap.tab (H.order [1,2,0,3,4,5,6,7] O O)).part) (auK O) ?_))
 rintro e W1 ⟨rfl,H'⟩
 refine⟨_,rfl,?_⟩
 have H2:=Heap.amb ((Heap.tab (H.order [1,2,0,3,4,5,6,7] rfl rfl)).step H' (fun i hi=>hi));clear H H';have H:Heap w I [_,_,_,_,_,_,_,_] _:=H2.order [2,0,1,3,4,5,6,7] rfl rfl;clear H2
 refine vH ?_
 refine dL ?_
 refine BI O TK (BG H 0 O O O Y9 (BL H O (hLa (H.RS 2 O)) (as3 O) fun W1 H=>Ei H O U0 fun p4 _ H=>vw ?_))
 clear H;refine axS fun _ H=>?_
 refine AO (A8 ?_)
 refine G5 mixed ?_;replace H:=H.drew
 refine aN ?_
 refine EC 2 O O O (fun _ hS=>Cm O XD) trivial (EC 4 O O O (fun _ hS=>aiO O underlying103 Ji Y) trivial (BD 3 O (BG H 1 O O q35 abB (oW ?_))))
 refine s_call O (hRs (some ⟨p4,0,none⟩) (H.BQ [2,4] O O).ents (fun _=>⟨p4,0,rfl,H.aqK 3 O p4 (by simp[blk]),H.VJ 0 O hVm.symm⟩)) (aq4 O) ?_
 rintro e W1 ⟨l',hst,rfl,H'⟩
 refine⟨_,rfl,?_⟩
 have H:=H.CX 4 rfl H';clear H';simp only[Bv]at H
 refine ak ?_
 refine CU (AX (uP ?_))
 exact⟨d',l',ed,by rw[hst.len,Dn],rfl,H.drop⟩
end
end
end
section
section
def Sm(c c':List Int)(a:Int):Prop:=∀y,a≤y→y<a+RX c a→Nv.get c' y=Nv.get c y
section
variable{g:Geo}{d d':Nv.D}{m n:Nat}{id:Int}{h:Fq}{G:Int→Prop}
theorem Sm.all(hO:F6 d m n id h)(hD:Dv d' m){a:Int}(h1:Sm d.cache d'.cache a):Ob.hd d'.cache a=Ob.hd d.cache a∧Ob.hp d'.cache a=Ob.hp d.cache a∧Ob.hq d'.cache a=Ob.hq d.cache a∧Ob.ptrs d'.cache a=Ob.ptrs d.cache a:=XY zC hO.dev.dv.U h1
theorem MZ.avF(hC:MZ d h G)(e:∀x,Ee h.s.U x=true→Ob.ptrs d'.cache x=Ob.ptrs d.cache x):MZ d' h G:=by
 rcases hC with h1|⟨h1,h2⟩|h1
 ·exact .inl h1
 ·exact .inr (.inl ⟨h1,h2.us,h2.sm,fun x hx y hy hu=>h2.cl x hx y (by rw[←e x (h2.us x (h2.sm x hx))];exact hy) hu,h2.cv⟩)
 ·exact .inr (.inr h1)
theorem MZ.sub(hC:MZ d h G){G':Int→Prop}(e:∀x,G' x→G x):MZ d h G':=by
 rcases hC with h1|h1|⟨h1,h2⟩
 ·exact .inl h1
 ·exact .inr (.inl h1)
 ·exact .inr (.inr ⟨h1,fun x hx=>h2 x (e x hx)⟩)
theorem F6.none(hO:F6 d m n id h):Ee h.s.U 0=false:=by
 cases e:Ee h.s.U 0 with
 |false=>rfl
 |true=>have:=hO.bd e;omega
structure avM (d d':Nv.D) (h h':Fq) (G:Int→Prop) (m n:Nat) (id:Int) (p q:Int) (z a:Nat):Prop where
 ok:F6 d' m n id h'
 gc:MZ d' h' fun x=>G x∨x=a
 fr:Ee h.s.U a=false
 us:∀x,Ee h.s.U x=true→Ee h'.s.U x=true
 sm:∀x,Ee h.s.U x=true→Sm d.cache d'.cache x
 nu:Ee h'.s.U a=true
 hp:Ob.hp d'.cache a=p
 hq:Ob.hq d'.cache a=q
 wz:∀y:Int,(a:Int)<y→y<a+z→Nv.get d'.cache y=0
 cl:∀j:Nat,(∀y:Int,(a:Int)≤y→y<a+z→y/8≠(j:Int))→UU d j=false→UU d' j=false
theorem aek(hO:F6 d m n id h)(hC:MZ d h G){p q:Int}{z k:Nat}{hs':List Ob.H3}{S' E':IL}{F':Nat→EP}{KP:Vf}{a:Nat}(hP:TJ m h.s (512*n) p q z k d d' hs' S' E' F' KP a)(hal:GK d'.cache (alQ h.s hs' S' E' F' KP a) (512*n) fun _=>False)(hk:k<32)(hz:(z:Int)=1+p+q)(hp:0≤p∧p≤63)(hq:0≤q∧q≤16384)(i:Nat):
 avM d d' h {h with s:=alQ h.s hs' S' E' F' KP a,rg:=h.rg.set i (a:Nat),sL:=Bm.put h.sL (a:Nat) false,M:=NM h.ph h.M a} G m n id p q z a:=by
 have hbd:=hP.ce.bd hk
 have hw:=Cl.Gt (k:Int) Y Y
 have hsn:=hO.sn
 have hn:=hO.n40
 have hul:=hO.ul
 have hG:=hO.mg
 have hput:=Ve (U:=h.s.U) (x:=(a:Int)) Y
 have hp1:=Ve (U:=h.M.L1) (x:=(a:Int)) (by rw[hG.l1];omega)
 have hp2:=Ve (U:=h.M.L2) (x:=(a:Int)) (by rw[hG.l2];omega)
 have hnu:Ee (Bm.put h.s.U a true) a=true:=by rw[hput,if_pos rfl]
 have hus:∀x,Ee h.s.U x=true→Ee (Bm.put h.s.U a true) x=true:=fun x hx=>by
  rw[hput];split
  ·rfl
  ·exact hx
 have hhd:Ob.hd d'.cache a=true:=(Ob.OW (hal.us a hnu)).2.2
 obtain⟨g1,g2,g3⟩:=Oh.Rt p q a hp.1 hp.2 hq.1 hq.2
 have hpp:Ob.hp d'.cache a=p:=by unfold Ob.hp;rw[if_pos hhd,hP.w0];exact g2
 have hqq:Ob.hq d'.cache a=q:=by unfold Ob.hq;rw[if_pos hhd,hP.w0];exact g3
 have hzz:RX d'.cache a=z:=by unfold RX;rw[hpp,hqq];omega
 obtain⟨k2,k2b,k2c,_,_,_,k2w,_⟩:=hal.obj hP.dv.U hnu
 have hk2:k2=k:=k2c.uniq hP.ce k2b hk
 subst hk2
 have hsm:∀x,Ee h.s.U x=true→Sm d.cache d'.cache x:=fun x hx y y1 y2=>by
  obtain⟨j,j1,j2,_,j3,_,j4,_⟩:=hO.al.obj hO.dev.dv.U hx
  have hne:x≠a:=fun e=>by rw[e,hP.un]at hx;cases hx
  have hxc:Hl hs' h.s.n j x:=by
   rcases hP.cap with⟨e,_⟩|⟨_,⟨b,hb,e⟩,_⟩
   ·rw[e];exact j2
   ·rw[e];exact(Uo j1 hb hO.al.hl x (Xb j1 hb j2)).2 j2
  have a1:=hP.ce.apart hxc hk j1 hne
  have a2:=hxc.apart hP.ce j1 hk (fun e=>hne e.symm)
  exact hP.ot y Y Y
 have hok:F6 d' m n id {h with s:=alQ h.s hs' S' E' F' KP a,rg:=h.rg.set i (a:Nat),sL:=Bm.put h.sL (a:Nat) false,M:=NM h.ph h.M a}:=by
  refine⟨hO.dev.words hP.dv hal.hd (by rw[←hsn];exact hal.hl) hal.sm fun x hx=>hP.ot x Y Y,hal,hsn,hn,hO.V8,by show(h.rg.set i _).length=32;rw[Hz];exact hO.r32,fun x hx=>?_,hO.hs,hO.hl,hO.ss.put' _ _,?_,hO.zb,hO.zl⟩
  ·rcases DY hx with h1|rfl
   ·exact hO.rb x h1
   ·omega
  ·show MkG (512*n) 3 (NM h.ph h.M a)
   unfold NM
   split
   ·exact hG
   ·exact⟨hG.s1.put' _ _,hG.s2.put' _ _,by show(Bm.put h.M.L1 a true).length=_;rw[Bm.Pv];exact hG.l1,by show(Bm.put h.M.L2 a true).length=_;rw[Bm.Pv];exact hG.l2,hG.k,hG.cu⟩
 refine⟨hok,?_,hP.un,hus,hsm,hnu,hpp,hqq,fun y y1 y2=>?_,fun j hj hd=>hP.cl j (fun x x1 x2 e=>hj x Y Y Y) hd⟩
 ·rcases hC with h1|⟨h1,h2⟩|⟨h1,h2⟩
  ·exact .inl h1
  ·have hM:NM h.ph h.M a={h.M with L1:=Bm.put h.M.L1 a true,L2:=Bm.put h.M.L2 a true}:=by unfold NM;rw[if_neg Y]
   refine .inr (.inl ⟨h1,?_⟩)
   show MkI (Bm.put h.s.U a true) d'.cache (NM h.ph h.M a)
   rw[hM]
   refine⟨fun x hx=>?_,fun x hx=>?_,fun x hx y hy hu=>?_,fun x x1 x2=>?_⟩
   ·replace hx:Ee (Bm.put h.M.L1 a true) x=true:=hx
    rw[hp1]at hx
    by_cases e:(a:Int)=x
    ·rw[←e];exact hnu
    ·rw[if_neg e]at hx;exact hus x (h2.us x hx)
   ·replace hx:Ee (Bm.put h.M.L2 a true) x=true:=hx
    show Ee (Bm.put h.M.L1 a true) x=true
    rw[hp2]at hx
    rw[hp1]
    by_cases e:(a:Int)=x
    ·rw[if_pos e]
    ·rw[if_neg e]at hx⊢;exact h2.sm x hx
   ·replace hx:Ee (Bm.put h.M.L2 a true) x=true:=hx
    show Ee (Bm.put h.M.L1 a true) y=true
    rw[hp2]at hx
    rw[hp1]
    by_cases e2:(a:Int)=y
    ·rw[if_pos e2]
    rw[if_neg e2]
    rw[hput,if_neg e2]at hu
    by_cases e:(a:Int)=x
    ·subst e
     unfold Ob.ptrs Ob.LM at hy
     obtain⟨t,ht,rfl⟩:=DN.1 hy
     have:=Fg.1 ht
     rw[hpp]at this
     have h0:=hP.wz (1+t) Y Y
     have e0:Ob.UL d'.cache ((a:Int)+(1+(t:Int)))=0:=by
      unfold Ob.UL
      rw[show(a:Int)+(1+(t:Int))=((a+(1+t):Nat):Int)by omega,h0];rfl
     rw[e0,hO.none]at hu;cases hu
    ·rw[if_neg e]at hx
     have hxu:=h2.us x (h2.sm x hx)
     rw[(Sm.all hO hP.dv (hsm x hxu)).2.2.2]at hy
     exact h2.cl x hx y hy hu
   ·replace x1:Ee (Bm.put h.M.L1 a true) x=true:=x1
    replace x2:Ee (Bm.put h.M.L2 a true) x=false:=x2
    rw[hp1]at x1
    rw[hp2]at x2
    by_cases e:(a:Int)=x
    ·rw[if_pos e]at x2;cases x2
    ·rw[if_neg e]at x1 x2;exact h2.cv x x1 x2
  ·have hM:NM h.ph h.M a={h.M with L1:=Bm.put h.M.L1 a true,L2:=Bm.put h.M.L2 a true}:=by unfold NM;rw[if_neg Y]
   refine .inr (.inr ⟨h1,fun x hx=>?_⟩)
   show(NM h.ph h.M a).col x≠0
   rw[hM]
   unfold KF.col
   show(if Ee (Bm.put h.M.L2 a true) x=true then(2:Int)else if Ee (Bm.put h.M.L1 a true) x=true then 1 else 0)≠0
   rw[hp1,hp2]
   by_cases e:(a:Int)=x
   ·rw[if_pos e,if_pos rfl];omega
   ·rw[if_neg e,if_neg e]
    rcases hx with hx|hx
    ·exact h2 x hx
    ·exact absurd hx.symm e
 ·have:=hP.wz (y-a).toNat Y Y
  rw[show((a+(y-a).toNat:Nat):Int)=y by omega]at this
  exact this
structure Stq (d d':Nv.D) (h h':Fq) (G:Int→Prop) (m n:Nat) (id:Int) (a x v:Int):Prop where
 ok:F6 d' m n id h'
 gc:MZ d' h' G
 ot:∀b,Ee h.s.U b=true→b≠a→Sm d.cache d'.cache b
 hp:Ob.hp d'.cache a=Ob.hp d.cache a
 hq:Ob.hq d'.cache a=Ob.hq d.cache a
 g:∀y,Nv.get d'.cache y=if y=x then v else Nv.get d.cache y
 cl:∀j:Nat,(∀y:Int,a≤y→y<a+RX d.cache a→y/8≠(j:Int))→UU d j=false→UU d' j=false
theorem afH(hO:F6 d m n id h){a x v:Int}(ha:Ee h.s.U a=true)(hx:a<x∧x<a+RX d.cache a)(hs:ZB d d' m x.toNat v){NC hL':List Bool}{M':KF}{zs:List Int}(h1:Gn h.sB h.sA h.sC NC)(h2:hL'.length=h.hL.length)(hS:Tz (512*n) 3 h.s.U h.M M' zs)(hC:MZ d h G)
 (hpt:h.ph=1→∀y∈Ob.ptrs d'.cache a,Ee h.s.U y=true→y∈Ob.ptrs d.cache a∨Ee M'.L1 y=true):Stq d d' h {h with sL:=NC,hL:=hL',M:=M'} G m n id a x v:=by
 have hbd:=hO.bd ha
 have hm:=hO.dev.hm
 have hn:=hO.n40
 have hdl:=hO.dev.dv.len
 obtain⟨k,k1,k2,_,k3,_,k4,k5⟩:=hO.al.obj hO.dev.dv.U ha
 rw[hO.sn]at k5
 have hxb:x.toNat<8*m:=Y
 have hg:∀y,Nv.get d'.cache y=if y=x then v else Nv.get d.cache y:=fun y=>by
  rw[hs.get hxb hdl,FY Y]
 have f:Fld d.cache d'.cache a x:=⟨by rw[hs.D.len,hdl],hx,fun y hy=>by rw[hg,if_neg hy]⟩
 have hal:=f.al hO.al hO.dev.dv.U ha
 have hot:∀b,Ee h.s.U b=true→b≠a→Sm d.cache d'.cache b:=fun b hb hne y y1 y2=>f.other hO.al hO.dev.dv.U ha hb (fun e=>hne e.symm) ⟨y1,y2⟩
 obtain⟨e1,e2,e3⟩:=f.hd hO.al hO.dev.dv.U ha ha
 have hok:F6 d' m n id {h with sL:=NC,hL:=hL',M:=M'}:=⟨hO.dev.words hs.D hal.hd (by rw[←hO.sn];exact hal.hl) hal.sm fun y hy=>by rw[hg,if_neg Y],hal,hO.sn,hO.n40,hO.V8,hO.r32,hO.rb,hO.hs.len2 h2,by show hL'.length=_;rw[h2];exact hO.hl,h1,hS.g,hO.zb,hO.zl⟩
 refine⟨hok,?_,hot,e2,e3,hg,fun j hj hd=>by rw[hs.k j fun e=>hj x Y hx.2 Y];exact hd⟩
 rcases hC.shd hS with h3|⟨h3,h4⟩|h3
 ·exact .inl h3
 ·refine .inr (.inl ⟨h3,h4.us,h4.sm,fun y hy z hz hu=>?_,h4.cv⟩)
  have hyu:Ee h.s.U y=true:=h4.us y (h4.sm y hy)
  by_cases e:y=a
  ·subst e
   rcases hpt h3 z hz hu with h5|h5
   ·exact h4.cl y hy z h5 hu
   ·exact h5
  ·rw[(Sm.all hO hs.D (hot y hyu e)).2.2.2]at hz
   exact h4.cl y hy z hz hu
 ·exact .inr (.inr h3)
theorem atG(hO:F6 d m n id h){x y:Nat}(p:Per d d' m x y)(hC:MZ d h G):F6 d' m n id h∧MZ d' h G:=by
 have hal:GK d'.cache h.s (512*n) fun _=>False:=by rw[p.c];exact hO.al
 exact⟨⟨hO.dev.words p.D hal.hd hO.dev.hl hO.dev.sm fun x hx=>by rw[p.c],hal,hO.sn,hO.n40,hO.V8,hO.r32,hO.rb,hO.hs,hO.hl,hO.ss,hO.mg,hO.zb,hO.zl⟩,hC.avF fun x _=>by rw[p.c]⟩
theorem arJ(hO:F6 d m n id h){NC:List Bool}{M':KF}{zs:List Int}(h1:Gn h.sB h.sA h.sC NC)(hS:Tz (512*n) 3 h.s.U h.M M' zs)(i:Nat){v:Int}(hv:0≤v∧v<131072)(hC:MZ d h G):F6 d m n id {h with V:=h.V.set i v,sL:=NC,M:=M'}∧MZ d {h with V:=h.V.set i v,sL:=NC,M:=M'} G:=by
 have h2:=hO.root i hv
 exact⟨⟨h2.dev,h2.al,h2.sn,h2.n40,h2.V8,h2.r32,h2.rb,h2.hs,h2.hl,h1,hS.g,h2.zb,h2.zl⟩,hC.shd hS⟩
theorem amW(hO:F6 d m n id h)(hE:h.E≤999){l':List Bool}(hl:l'.length=h.hL.length)(e:Nv.cm d m h.E h.k (J3 (h.E+1) h.V)=(d',0))(hC:MZ d h G):
 F6 d' m n id {h with E:=h.E+1,R:=h.V,k:=1-h.k,hL:=l'}∧MZ d' {h with E:=h.E+1,R:=h.V,k:=1-h.k,hL:=l'} G∧(∀x:Int,256≤x→Nv.get d'.cache x=Nv.get d.cache x)∧∀j,UU d j=false→UU d' j=false:=by
 obtain⟨d2,e2,hdv,ahe,hcl⟩:=hO.dev.commit hO.V8 hE
 rw[e]at e2
 injection e2 with e2 _
 subst e2
 have hal':GK d'.cache h.s (512*n) fun _=>False:=hO.al.words (by rw[hdv.dv.len,hO.dev.dv.len]) (fun x h1 h2=>ahe x Y) fun a ha=>ahe a (by have:=hO.bd ha;omega)
 refine⟨⟨hdv,hal',hO.sn,hO.n40,hO.V8,hO.r32,hO.rb,hO.hs.len2 hl,by show l'.length=_;rw[hl];exact hO.hl,hO.ss,hO.mg,hO.zb,hO.zl⟩,MZ.avF (d:=d) hC fun x hx=>?_,ahe,hcl⟩
 exact(Sm.all hO hdv.dv fun y y1 y2=>ahe y (by have:=hO.bd hx;omega)).2.2.2
end
end
end
section
section
def aeE(k:Nat):Nat:=if k=1 then 1 else if k=3 then 2 else 0
theorem ahT(c:Nat):aeE c<4:=by unfold aeE;split;omega;split<;>omega
def Pj(x y u v:Int):List Int:=[0,0,0,0,0,0,0,0,x,y,0,0,0,0,0,0,u,v,0,0,0,0,0,0,0,0,0,0,0,0,0,0]
structure Rest (d:Nv.D) (m:Nat) (id:Int) (h:Fq) (G:Int→Prop) (A:Nat):Prop where
 ok:F6 d m 40 id h
 gc:MZ d h G
 cl:∀j,UU d j=false
 cp:Cap h.s.hs h.s.U A
 mu:h.s.M=aeE
structure Ext (d d':Nv.D) (h h':Fq):Prop where
 us:∀x,Ee h.s.U x=true→Ee h'.s.U x=true
 sm:∀x,Ee h.s.U x=true→Sm d.cache d'.cache x
 e:{h' with s:=h.s,rg:=h.rg,hL:=h.hL,sL:=h.sL,M:=h.M}=h
 pA:h'.s.pA=h.s.pA
theorem Ext.refl(d:Nv.D)(h:Fq):Ext d d h h:=⟨fun _ h=>h,fun _ _ _ _ _=>rfl,rfl,rfl⟩
theorem Sm.RX{c c':List Int}{a:Int}(h:Sm c c' a)(hl:c'.length=c.length)(hw:Ob.Qv c):RX c' a=RX c a:=by
 obtain⟨_,h1,h2,_⟩:=XY hl hw h
 unfold Go.Proofs.YtppilhpcmkekbaaGreat.RX
 rw[h1,h2]
theorem Ext.trans{d d1 d2:Nv.D}{m n:Nat}{id:Int}{h h1 h2:Fq}(a:Ext d d1 h h1)(b:Ext d1 d2 h1 h2)(hO:F6 d m n id h)(hD:Dv d1 m):Ext d d2 h h2:=by
 refine⟨fun x hx=>b.us x (a.us x hx),fun x hx y y1 y2=>?_,?_,b.pA.trans a.pA⟩
 ·have h3:=a.sm x hx
  have h4:=h3.RX zC hO.dev.dv.U
  rw[b.sm x (a.us x hx) y y1 (by rw[h4];exact y2)]
  exact h3 y y1 y2
 ·have e1:=a.e
  have e2:=b.e
  rw[←e2]at e1
  exact e1
structure Bld (d0 d:Nv.D) (h0 h:Fq) (m:Nat) (id:Int) (G:Int→Prop) (A:Nat) (a p q:Int):Prop where
 ok:F6 d m 40 id h
 gc:MZ d h G
 cp:Cap h.s.hs h.s.U A
 mu:h.s.M=aeE
 fr:Ee h0.s.U a=false
 nu:Ee h.s.U a=true
 ex:Ext d0 d h0 h
 hp:Ob.hp d.cache a=p
 hq:Ob.hq d.cache a=q
 cl:∀j:Nat,(∀y:Int,a≤y→y<a+(1+p+q)→y/8≠(j:Int))→UU d j=false
section
variable{d0 d d':Nv.D}{h0 h h':Fq}{m:Nat}{id:Int}{G:Int→Prop}{A:Nat}{a p q:Int}
theorem Bld.regs(B:Bld d0 d h0 h m id G A a p q)(hok:F6 d m 40 id h')(hgc:MZ d h' G)(e:{h' with rg:=h.rg,hL:=h.hL,sL:=h.sL,M:=h.M}=h):Bld d0 d h0 h' m id G A a p q:=by
 have es:h'.s=h.s:=by have:=congrArg Fq.s e;exact this
 refine⟨hok,hgc,by rw[es];exact B.cp,by rw[es];exact B.mu,B.fr,by rw[es];exact B.nu,⟨fun x hx=>by rw[es];exact B.ex.us x hx,B.ex.sm,?_,by rw[es];exact B.ex.pA⟩,B.hp,B.hq,B.cl⟩
 have e1:=B.ex.e
 rw[←e]at e1
 exact e1
theorem Bld.WZ(B:Bld d0 d h0 h m id G A a p q)(hO:F6 d0 m 40 id h0){x v:Int}(f:Stq d d' h h' G m 40 id a x v)(hD:Dv d' m)(e:{h' with hL:=h.hL,sL:=h.sL,M:=h.M}=h):Bld d0 d' h0 h' m id G A a p q:=by
 have es:h'.s=h.s:=by have:=congrArg Fq.s e;exact this
 refine⟨f.ok,f.gc,by rw[es];exact B.cp,by rw[es];exact B.mu,B.fr,by rw[es];exact B.nu,⟨fun y hy=>by rw[es];exact B.ex.us y hy,fun b hb y y1 y2=>?_,?_,by rw[es];exact B.ex.pA⟩,by rw[f.hp];exact B.hp,by rw[f.hq];exact B.hq,fun j hj=>f.cl j (fun y y1 y2=>hj y y1 (by unfold RX at y2;rw[B.hp,B.hq]at y2;exact y2)) (B.cl j hj)⟩
 ·have hne:b≠a:=fun e=>by have:=B.fr;rw[←e,hb]at this;cases this
  have h3:=B.ex.sm b hb
  have h4:=h3.RX (by rw[B.ok.dev.dv.len,hO.dev.dv.len]) hO.dev.dv.U
  rw[f.ot b (B.ex.us b hb) hne y y1 (by rw[h4];exact y2)]
  exact h3 y y1 y2
 ·have e1:=B.ex.e
  rw[←e]at e1
  exact e1
theorem Bld.per(B:Bld d0 d h0 h m id G A a p q)(hpq:0≤p∧0≤q)(f:Per d d' m a.toNat (1+Ob.hp d.cache a+Ob.hq d.cache a).toNat):Rest d' m id h G A∧Ext d0 d' h0 h:=by
 obtain⟨h1,h2⟩:=atG B.ok f B.gc
 have hbd:=B.ok.bd B.nu
 have hq:=f.q
 rw[B.hp,B.hq]at hq
 refine⟨⟨h1,h2,fun j=>?_,B.cp,B.mu⟩,B.ex.us,fun x hx y y1 y2=>by rw[f.c];exact B.ex.sm x hx y y1 y2,B.ex.e,B.ex.pA⟩
 by_cases hj:∃y:Int,a≤y∧y<a+(1+p+q)∧y/8=(j:Int)
 ·obtain⟨y,y1,y2,y3⟩:=hj
  have:=hq y.toNat Y Y
  rw[show y.toNat/8=j by omega]at this
  exact this
 ·exact f.k j (B.cl j fun y y1 y2 e=>hj ⟨y,y1,y2,e⟩)
end
theorem Rest.alloc{d d':Nv.D}{h:Fq}{m:Nat}{id:Int}{G:Int→Prop}{A:Nat}(R:Rest d m id h G A){p q:Int}{z k:Nat}{hs':List Ob.H3}{S' E':IL}{F':Nat→EP}{KP:Vf}{a:Nat}(hP:TJ m h.s (512*40) p q z k d d' hs' S' E' F' KP a)(hk:k=1∨k=3)(hz:(z:Int)=1+p+q){i:Nat}
 (f:avM d d' h {h with s:=alQ h.s hs' S' E' F' KP a,rg:=h.rg.set i (a:Nat),sL:=Bm.put h.sL (a:Nat) false,M:=NM h.ph h.M a} G m 40 id p q z a):
 Bld d d' h {h with s:=alQ h.s hs' S' E' F' KP a,rg:=h.rg.set i (a:Nat),sL:=Bm.put h.sL (a:Nat) false,M:=NM h.ph h.M a} m id (fun x=>G x∨x=a) (A+1) a p q:=by
 have hbd:=hP.ce.bd (show k<32 by omega)
 have hul:=R.ok.ul
 have hsn:=R.ok.sn
 have hw:=Cl.Gt (k:Int) Y Y
 refine⟨f.ok,f.gc,R.cp.alloc (F':=F') R.ok.al hk Y hP.un hP.cap,R.mu,f.fr,f.nu,⟨f.us,f.sm,rfl,rfl⟩,f.hp,f.hq,fun j hj=>f.cl j (fun y y1 y2=>hj y y1 Y) (R.cl j)⟩
theorem Rest.room{d:Nv.D}{h:Fq}{m:Nat}{id:Int}{G:Int→Prop}{A:Nat}(R:Rest d m id h G A)(hA:A≤1800):∃b:Nat,QY h.s.hs h.s.n b:=by
 rw[R.ok.sn]
 exact R.cp.room R.ok.al.hd.h0 (by rw[R.ok.al.hl];exact R.ok.sn) hA
end
end
section
section
open Go.RowKit
theorem Vu(w:World):Calls prog 147 [].toArray w fun e w'=>e= .returned (.agg [.int .i64 (2:Nat),.int .i64 (0:Nat)].toArray)∧Only [] w w':=by
 have H:=Heap.nil w
 refine BO 2 func147 O (AP (Ei H O aiG fun p0 _ H=>AO (AP (AV (FI (alG _) O) (En H 0 O O O O O O O NW ?_)))))
 clear H;refine axS fun _ H=>?_
 refine AO (BM (abJ O (JB H 0 O O O OT NW) ?_))
 exact⟨rfl,H.only⟩
theorem adA(w:World):Calls prog 148 [].toArray w fun e w'=>e= .returned (.agg [.int .i64 (2:Nat),.int .i64 (1:Nat)].toArray)∧Only [] w w':=by
 have H:=Heap.nil w
 refine BO 2 func148 O (AP (Ei H O aiG fun p0 _ H=>AO (AP (AV (FI (afp _ _) O) (En H 0 O O O O O O O NW ?_)))))
 clear H;refine axS fun _ H=>?_
 refine AO (BM (abJ O (JB H 0 O O O OT NW) ?_))
 exact⟨rfl,H.only⟩
def MV(pT pH:Nat)(nm:Int):FU:=blk pT [ptr pH,.int .i64 nm] 228
structure Nd (U:List Bool) (c:List Int) (a l r k v:Int):Prop where
 us:Ee U a=true
 hp:Ob.hp c a=2
 hq:Ob.hq c a=2
 l:Ob.UL c (a+1)=l
 r:Ob.UL c (a+2)=r
 k:Nv.get c (a+3)=k
 v:Nv.get c (a+4)=v
section
variable{g:Geo}{d:Nv.D}{m:Nat}{id:Int}{h:Fq}{pT:Nat}{nm:Int}{w:World}{G:Int→Prop}{A:Nat}
theorem amA{d0:Nv.D}{h0:Fq}(hE:Dj [MV pT h.pH nm,grp (h.L g d)] w)(hO0:F6 d0 m 40 id h0){a x y y0 to:Int}(B:Bld d0 d h0 h m id G A a 2 2)(hrg:h.rg=Pj x y a y0)(i:Nat)(hi:i<2)(hz:Nv.get d.cache (a+(1+i))=0)(hto:to=0∨Ee h.s.U to=true):
 Calls prog 208 [ptr pT,.int .i64 i,.int .i64 to].toArray w fun e w'=>∃(d':Nv.D) (h':Fq) (y1:Int),Bld d0 d' h0 h' m id G A a 2 2∧h'.rg=Pj x y a y1∧h'.pH=h.pH∧h'.s=h.s∧(∀t,Nv.get d'.cache t=if t=a+(1+i)then to else Nv.get d.cache t)∧e= .returned (.int .i64 0)∧Heap w (ids [MV pT h.pH nm,grp (h.L g d)]) [MV pT h.pH nm,grp (h'.L g d')] w':=by
 have H:=Heap.start hE
 generalize ids [MV pT h.pH nm,grp (h.L g d)]=I at*
 by_cases h0':to=0
 ·refine BO 28 func208 O (AP (lV ?_))
  refine AV (D7 O O Y) (gG ?_)
  exact⟨d,h,y0,B,hrg,rfl,rfl,fun t=>by split;rename_i e;rw[e,hz,h0'];rfl,rfl,H⟩
 ·have hu:=hto.resolve_left h0'
  have htb:=B.ok.bd hu
  have hTk:=fun{W:World} hE=>akB (g:=g) (d:=d) (h:=h) (w:=W) hE B.ok 2 1 Y Y to hu
  refine BO 28 func208 O (AP (lV ?_))
  refine kC ?_
  refine A8 (A8 ?_)
  refine Gl (fun f W=>∃(M1:KF) (zs:List Int),Tz (512*40) 3 h.s.U h.M M1 zs∧f 0=ptr pT∧f 1= .int .i64 i∧f 7= .int .i64 0∧Heap w I [MV pT h.pH nm,grp (Fq.L g d {h with rg:=h.rg.set (8*2+1) to,M:=M1})] W) ?_ ?_
  ·refine JQ (A:=[_]) mixed H [0] O ?_;replace H:=H.drew
   refine aO ?_
   refine lu ?_
   refine BL H O (adA _) (aln O) fun W1 H=>dh ?_
   refine BD 6 O (s_call O (hTk (H.Bl 1 O)) (apX O) ?_)
   rintro e W1 ⟨M1,zs,hS,rfl,H'⟩
   refine⟨_,rfl,?_⟩
   have H:=H.CX 1 rfl H';clear H';simp only[Bv]at H
   refine iT ?_
   exact⟨M1,zs,hS,rfl,rfl,rfl,H⟩
  clear H
  rintro f W ⟨M1,zs,hS,f0,f1,f7,H⟩
  obtain⟨f,rfl⟩:=KI f0 f1 f7
  clear f0 f1 f7
  have hok1:F6 d m 40 id {h with rg:=h.rg.set (8*2+1) to,M:=M1}:=(B.ok.reg 17 (a:=to) Y).mkM hS.g
  have atj:MZ d {h with rg:=h.rg.set (8*2+1) to,M:=M1} G:=MZ.shd (h:={h with rg:=h.rg.set (8*2+1) to}) B.gc hS
  have B1:=B.regs hok1 atj rfl
  have hrg1:h.rg.set (8*2+1) to=Pj x y a to:=by rw[hrg];rfl
  have hSt:=fun{W:World} hE=>aiB (g:=g) (d:=d) (m:=m) (h:={h with rg:=h.rg.set (8*2+1) to,M:=M1}) (w:=W) hE hok1 2 0 1 Y Y Y (i:Int) a to (by show(h.rg.set (8*2+1) to).getD 16 0=a;rw[hrg1];rfl) (by show(h.rg.set (8*2+1) to).getD 17 0=to;rw[hrg1];rfl) B.nu (by rw[B.hp];omega) Y
  refine AX (kK ?_)
  refine A8 ?_
  refine Gl (fun f W=>∃(d':Nv.D) (NC hL':List Bool) (M':KF) (zs:List Int),ZB d d' m (a+(1+(i:Int))).toNat to∧Gn h.sB h.sA h.sC NC∧hL'.length=h.hL.length∧Tz (512*40) 3 h.s.U M1 M' zs∧(h.ph=1→to≠0→zs=[to])∧f 6= .int .i64 0∧Heap w I [MV pT h.pH nm,grp (Fq.L g d' {h with rg:=h.rg.set (8*2+1) to,sL:=NC,hL:=hL',M:=M'})] W) ?_ ?_
  ·refine JQ (A:=[_]) mixed H [0] O ?_;replace H:=H.drew
   refine aO ?_
   refine lu ?_
   refine BL H O (Vu _) (Vh O) fun W1 H=>dh ?_
   refine BD 6 O (BL H O (adA _) (aln O) fun W1 H=>dh ?_)
   refine BD 7 O (s_call O (hSt (H.Bl 1 O)) (as5 O) ?_)
   rintro e W1 ⟨d',NC,hL',M',zs2,hs,h1,h2,hS2,hz2,rfl,H'⟩
   refine⟨_,rfl,?_⟩
   have H:=H.CX 1 rfl H';clear H';simp only[Bv]at H
   refine dh ?_
   refine CZ 8 O O O (fun _ hS=>DK (v:= .int _ _) O) (H.BQ [0] O O) (CU (Dp ?_))
   exact⟨d',NC,hL',M',zs2,hs,h1,h2,hS2,hz2,rfl,H⟩
  clear H
  rintro f W ⟨d',NC,hL',M',zs2,hs,h1,h2,hS2,hz2,f6,H⟩
  obtain⟨f,rfl⟩:=aci f6
  clear f6
  refine AX (BM (aK ?_))
  have hbd:=B.ok.bd B.nu
  have hml:=B.ok.dev.hm
  obtain⟨_,_,_,_,_,_,o4,o5⟩:=B.ok.al.obj B.ok.dev.dv.U B.nu
  rw[B.ok.sn]at o5
  have ae4:RX d.cache a=5:=by unfold RX;rw[B.hp,B.hq];omega
  rw[ae4]at o4
  have hgt:∀t,Nv.get d'.cache t=if t=a+(1+i)then to else Nv.get d.cache t:=fun t=>by
   rw[hs.get Y B.ok.dev.dv.len,FY Y]
  have f2:=afH (G:=G) hok1 B.nu (x:=a+(1+(i:Int))) (by rw[ae4];omega) hs h1 h2 hS2 atj (fun hp1 t ht hu2=>by
   unfold Ob.ptrs Ob.LM at ht⊢
   have hpp:Ob.hp d'.cache a=2:=by
    have:=(Ph (c:=d.cache) (c':=d'.cache) (a:=a) (by rw[hs.D.len,B.ok.dev.dv.len]) (by rw[hgt,if_neg Y])).2.1
    rw[this];exact B.hp
   rw[hpp]at ht
   rw[B.hp]
   obtain⟨j,hj,rfl⟩:=DN.1 ht
   have hjr:=Fg.1 hj
   by_cases e:j=i
   ·subst e
    have e1:Ob.UL d'.cache (a+(1+(j:Int)))=to:=by unfold Ob.UL;rw[hgt,if_pos rfl,Int.min_eq_left Y]
    rw[e1]
    exact .inr (hS2.got to (by rw[hz2 hp1 h0'];simp) hu)
   ·refine .inl (DN.2 ⟨j,hj,?_⟩)
    unfold Ob.UL
    rw[hgt,if_neg Y])
  exact⟨d',{h with rg:=h.rg.set (8*2+1) to,sL:=NC,hL:=hL',M:=M'},to,B1.WZ hO0 f2 hs.D rfl,hrg1,rfl,rfl,hgt,rfl,H⟩
theorem TP(hE:Dj [MV pT h.pH nm,grp (h.L g d)] w)(R:Rest d m id h G A)(hg:Q5 g m)(hA:A≤1800){x y u0 v0:Int}(hrg:h.rg=Pj x y u0 v0)(l r k v:Int)(hl:l=0∨Ee h.s.U l=true)(hr:r=0∨Ee h.s.U r=true)(hk:Ui k)(hv:Ui v):
 Calls prog 149 [ptr pT,.agg [.int .i64 l,.int .i64 r,.int .u64 k,.int .u64 v].toArray].toArray w fun e w'=>∃(d':Nv.D) (h':Fq) (a:Nat) (y1:Int),Rest d' m id h' (fun t=>G t∨t=a) (A+1)∧Ext d d' h h'∧Ee h.s.U a=false∧Nd h'.s.U d'.cache a l r k v∧h'.rg=Pj x y a y1∧e= .returned (.tuple #[.int .i64 a,.int .i64 0])∧Heap w (ids [MV pT h.pH nm,grp (h.L g d)]) [MV pT h.pH nm,grp (h'.L g d')] w':=by
 have H:=Heap.start hE
 have hAl:=fun{W:World} hE=>aeb (g:=g) (d:=d) (h:=h) (w:=W) hE R.ok hg 2 0 Y Y 2 2 5 3 (by rw[R.mu];rfl) Y Y Y Ak Ak (.inr (R.room hA))
 generalize ids [MV pT h.pH nm,grp (h.L g d)]=I at*
 refine BO 64 func149 O (AP (D9 H O O fun p3 _ H=>kG ?_))
 refine dL ?_
 refine BI O KY (BG H 1 O O O KO (Fb O (AO (A8 (AP (Bg O (BL H O (Vu _) (Vh O) fun W1 H=>s_call O (hAl (H.Bl 2 O)) (aqz O) ?_)))))))
 rintro e W1 ⟨d1,hs1,S1,E1,F1,Xi,a,hP,hal,rfl,H'⟩
 refine⟨_,rfl,?_⟩
 have H:=H.CX 2 rfl H';clear H';simp only[Bv]at H
 refine AY O (AO (qw ?_))
 have N1:=aek R.ok R.gc hP hal Y Y Y Y (8*2+0)
 have B1:=R.alloc hP (.inr rfl) Y N1
 have hrg1:h.rg.set (8*2+0) (a:Nat)=Pj x y a v0:=by rw[hrg];rfl
 have hz1:∀i:Nat,i<4→Nv.get d1.cache ((a:Int)+(1+i))=0:=fun i hi=>N1.wz _ Y Y
 obtain⟨h1,hh1⟩:∃X:Fq,{h with s:=alQ h.s hs1 S1 E1 F1 Xi a,rg:=h.rg.set (8*2+0) (a:Nat),sL:=Bm.put h.sL (a:Nat) false,M:=NM h.ph h.M a}=X:=⟨_,rfl⟩
 have YP:h1.pH=h.pH:=by rw[←hh1]
 rw[hh1]at B1 H N1
 have auE:h1.rg=Pj x y a v0:=by rw[←hh1];exact hrg1
 clear hrg1 hh1 hP hal
 have hL0:=fun{W:World} hE=>amA (g:=g) (d:=d1) (h:=h1) (pT:=pT) (nm:=nm) (w:=W) hE R.ok B1 auE 0 Y (hz1 0 Y) (to:=l) (hl.imp (fun e=>e) (N1.us l))
 rw[YP]at hL0
 refine DF (Bg O (rQ ?_))
 refine s_call O (hL0 (H.BQ [1,2] O O).ents) (aqj O) ?_
 rintro e W1 ⟨d2,h2,y2,B2,hrg2,aoK,hs2,hg2,rfl,H'⟩
 refine⟨_,rfl,?_⟩
 have H:=(H.order [1,2,0] rfl rfl:Heap w I ([_,_]++ [_]) _).step H' (fun i hi=>hi);clear H';simp only[Bv]at H
 refine AY O (AO (qw ?_))
 have hL1:=fun{W:World} hE=>amA (g:=g) (d:=d2) (h:=h2) (pT:=pT) (nm:=nm) (w:=W) hE R.ok B2 hrg2 1 Y (by rw[hg2,if_neg Y];exact hz1 1 Y) (to:=r) (hr.imp (fun e=>e) fun e=>by rw[hs2];exact N1.us r e)
 rw[aoK]at hL1
 refine DF (Bg O (BI O LU (BG H 2 O O O FM (s_call O (hL1 (H.BQ [0,1] O O).ents) (aqj O) ?_))))
 rintro e W1 ⟨d3,h3,y3,B3,hrg3,aok,hs3,hg3,rfl,H'⟩
 refine⟨_,rfl,?_⟩
 have H:=(H.order [0,1,2] rfl rfl:Heap w I ([_,_]++ [_]) _).step H' (fun i hi=>hi);clear H';simp only[Bv]at H
 refine AY O (AO (qw ?_))
 have hbd:=B3.ok.bd B3.nu
 have hml:=B3.ok.dev.hm
 have ae4:RX d3.cache a=5:=by unfold RX;rw[B3.hp,B3.hq];omega
 obtain⟨_,_,_,_,_,_,o4,o5⟩:=B3.ok.al.obj B3.ok.dev.dv.U B3.nu
 rw[B3.ok.sn]at o5
 rw[ae4]at o4
 have akh:h3.pH=h.pH:=aok
 have hD0:=fun{W:World} hE=>YH (g:=g) (d:=d3) (m:=m) (h:=h3) (w:=W) hE B3.ok 2 0 Y Y 0 k a (by rw[hrg3];rfl) B3.nu (by rw[B3.hq];omega) hk
 rw[B3.hp,akh]at hD0
 refine Gl (fun f W=>∃d4,ZB d3 d4 m ((a:Int)+(1+2+0)).toNat k∧f 3=ptr p3∧f 6=ptr h.pH∧f 10= .int .i64 0∧Heap w I [MV pT h.pH nm,grp (h3.L g d4),blk p3 [.int .i64 l,.int .i64 r,.int .u64 k,.int .u64 v] 161] W) ?_ ?_
 ·refine JQ (A:=[_]) mixed H [2] O ?_;replace H:=H.drew
  refine CZ 0 O O O (fun _ hS=>Cc (v:= .pointer _) O) (H.BQ [2] O O) (CZ 2 O O O (fun _ hS=>Cm O Hy) (H.BQ [2] O O) (CZ 3 O O O (fun _ hS=>DR hS 0 O O O Gh) (H.BQ [2] O O) (BD 1 O (BL H O (Vu _) (Vh O) fun W1 H=>sF ?_))))
  refine BD 4 O (s_call O (hD0 (H.Bl 1 O)) (aqZ O) ?_)
  rintro e W1 ⟨d4,st4,rfl,H'⟩
  refine⟨_,rfl,?_⟩
  have H:=H.CX 1 rfl H';clear H';simp only[Bv]at H
  refine sF ?_
  refine CZ 5 O O O (fun _ hS=>DK (v:= .int _ _) O) (H.BQ [2] O O) (CU (Dp ?_))
  exact⟨d4,st4,rfl,rfl,rfl,H⟩
 clear H
 rintro f W ⟨d4,st4,f3,f6,f10,H⟩
 obtain⟨f,rfl⟩:=KI f3 f6 f10
 clear f3 f6 f10
 have hg4:∀t,Nv.get d4.cache t=if t=(a:Int)+3 then k else Nv.get d3.cache t:=fun t=>by
  rw[st4.get Y B3.ok.dev.dv.len,FY Y]
  rfl
 have aw5:ZB d3 d4 m ((a:Int)+3).toNat k:=st4
 have awP:Ob.ptrs d4.cache a=Ob.ptrs d3.cache a:=by
  have hpp:Ob.hp d4.cache a=2:=by
   have:=(Ph (c:=d3.cache) (c':=d4.cache) (a:=a) (by rw[st4.D.len,B3.ok.dev.dv.len]) (by rw[hg4,if_neg Y])).2.1
   rw[this];exact B3.hp
  unfold Ob.ptrs Ob.LM
  rw[hpp,B3.hp]
  refine JA fun j hj=>?_
  have:=Fg.1 hj
  unfold Ob.UL
  rw[hg4,if_neg Y]
 have f4:=afH B3.ok B3.nu (x:=(a:Int)+3) (by rw[ae4];omega) aw5 B3.ok.ss rfl (Tz.refl (zs:=[]) B3.ok.mg J) B3.gc (fun _ t ht _=> .inl (by rw[←awP];exact ht))
 have B4:=B3.WZ R.ok f4 st4.D rfl
 replace B4:Bld d d4 h h3 m id _ (A+1) a 2 2:=B4
 have atd:RX d4.cache a=5:=by unfold RX;rw[B4.hp,B4.hq];omega
 have hD1:=fun{W:World} hE=>YH (g:=g) (d:=d4) (m:=m) (h:=h3) (w:=W) hE B4.ok 2 0 Y Y 1 v a (by rw[hrg3];rfl) B4.nu (by rw[B4.hq];omega) hv
 rw[B4.hp,akh]at hD1
 refine AX (qw ?_)
 refine Gl (fun f W=>∃d5,ZB d4 d5 m ((a:Int)+(1+2+1)).toNat v∧f 6=ptr h.pH∧f 11= .int .i64 0∧Heap w I [MV pT h.pH nm,grp (h3.L g d5)] W) ?_ ?_
 ·refine JQ (A:=[_]) mixed H [2] O ?_;replace H:=H.drew
  refine CZ 0 O O O (fun _ hS=>Cc (v:= .pointer _) O) (H.BQ [2] O O) (CZ 2 O O O (fun _ hS=>Cm O Ue) (H.BQ [2] O O) (CZ 3 O O O (fun _ hS=>DR hS 0 O O O Gh) (H.BQ [2] O O) (BD 1 O (BL H O (Vu _) (Vh O) fun W1 H=>sF ?_))))
  refine BD 4 O (s_call O (hD1 (H.Bl 1 O)) (aqZ O) ?_)
  rintro e W1 ⟨d5,st5,rfl,H'⟩
  refine⟨_,rfl,?_⟩
  have H:=H.CX 1 rfl H';clear H';simp only[Bv]at H
  refine sF ?_
  refine CZ 5 O O O (fun _ hS=>DK (v:= .int _ _) O) (H.BQ [2] O O) (CU (Dp ?_))
  exact⟨d5,st5,rfl,rfl,H.BQ [0,1] rfl rfl⟩
 clear H
 rintro f W ⟨d5,st5,f6,f11,H⟩
 obtain⟨f,rfl⟩:=LZ f6 f11
 clear f6 f11
 have hg5:∀t,Nv.get d5.cache t=if t=(a:Int)+4 then v else Nv.get d4.cache t:=fun t=>by
  rw[st5.get Y B4.ok.dev.dv.len,FY Y]
  rfl
 have axu:ZB d4 d5 m ((a:Int)+4).toNat v:=st5
 have awR:Ob.ptrs d5.cache a=Ob.ptrs d4.cache a:=by
  have hpp:Ob.hp d5.cache a=2:=by
   have:=(Ph (c:=d4.cache) (c':=d5.cache) (a:=a) (by rw[st5.D.len,B4.ok.dev.dv.len]) (by rw[hg5,if_neg Y])).2.1
   rw[this];exact B4.hp
  unfold Ob.ptrs Ob.LM
  rw[hpp,B4.hp]
  refine JA fun j hj=>?_
  have:=Fg.1 hj
  unfold Ob.UL
  rw[hg5,if_neg Y]
 have f5:=afH B4.ok B4.nu (x:=(a:Int)+4) (by rw[atd];omega) axu B4.ok.ss rfl (Tz.refl (zs:=[]) B4.ok.mg J) B4.gc (fun _ t ht _=> .inl (by rw[←awR];exact ht))
 have B5:=B4.WZ R.ok f5 st5.D rfl
 replace B5:Bld d d5 h h3 m id _ (A+1) a 2 2:=B5
 have hPe:=fun{W:World} hE=>ade (g:=g) (d:=d5) (m:=m) (h:=h3) (w:=W) hE B5.ok hg 2 0 Y Y a (by rw[hrg3];rfl) B5.nu
 have hAt:=fun{d:Nv.D} {W:World} hE=>av3 (g:=g) (d:=d) (h:=h3) (w:=W) hE B5.ok.r32 2 0 Y Y a (by rw[hrg3];rfl)
 rw[akh]at hPe hAt
 refine AX (kK ?_)
 refine A8 (AP (Bg O (BL H O (Vu _) (Vh O) fun W1 H=>s_call O (hPe (H.Bl 1 O)) (atY O) ?_)))
 rintro e W1 ⟨d6,p6,rfl,H'⟩
 refine⟨_,rfl,?_⟩
 have H:=H.CX 1 rfl H';clear H';simp only[Bv]at H
 refine vH ?_
 refine AP (Bg O (BL H O (Vu _) (Vh O) fun W1 H=>BL H O (hAt (H.Bl 1 O)) (aul O) fun W1 H=>tV ?_))
 obtain⟨R6,X6⟩:=B5.per Y p6
 have w6:∀t,Nv.get d6.cache t=if t=(a:Int)+4 then v else if t=(a:Int)+3 then k else if t=(a:Int)+2 then r else if t=(a:Int)+1 then l else Nv.get d1.cache t:=fun t=>by
  rw[p6.c,hg5,hg4,hg3,hg2]
  rfl
 have avY:l≤1099511627776:=by
  rcases hl with e|e
  ·omega
  ·have:=R.ok.bd e;omega
 have axx:r≤1099511627776:=by
  rcases hr with e|e
  ·omega
  ·have:=R.ok.bd e;omega
 refine⟨d6,h3,a,y3,R6,X6,B5.fr,⟨B5.nu,by rw[p6.c];exact B5.hp,by rw[p6.c];exact B5.hq,?_,?_,?_,?_⟩,hrg3,rfl,H⟩
 ·unfold Ob.UL
  rw[w6,if_neg Y,if_neg Y,if_neg Y,if_pos rfl,Int.min_eq_left avY]
 ·unfold Ob.UL
  rw[w6,if_neg Y,if_neg Y,if_pos rfl,Int.min_eq_left axx]
 ·rw[w6,if_neg Y,if_pos rfl]
 ·rw[w6,if_pos rfl]
end
end
end
section
section
open Go.RowKit
inductive Tr where
 |nil
 |node (a k v:Int) (l r:Tr)
namespace Tr
def IU:Tr→Int
 |nil=>0
 |node a _ _ _ _=>a
def isN:Tr→Bool
 |nil=>false
 |_=>true
def At(U:List Bool)(c:List Int):Tr→Prop
 |nil=>True
 |node a k v l r=>Nd U c a l.IU r.IU k v∧(Ui k∧Ui v)∧l.At U c∧r.At U c
def has(x:Int):Tr→Prop
 |nil=>False
 |node a _ _ l r=>x=a∨l.has x∨r.has x
def pl:Tr→PT
 |nil=> .nil
 |node _ k v l r=> .node k v l.pl r.pl
def rd:Tr→List Value
 |nil=> [.int .i64 (0:Nat),.int .i64 (0:Nat),.int .u64 (0:Nat),.int .u64 (0:Nat)]
 |node _ k v l r=> [.int .i64 l.IU,.int .i64 r.IU,.int .u64 k,.int .u64 v]
theorem Ou{U:List Bool}{c:List Int}:∀{t:Tr},t.At U c→t.IU=0∨Ee U t.IU=true
 |nil,_=> .inl rfl
 |node _ _ _ _ _,h=> .inr h.1.us
theorem YR{U:List Bool}{c:List Int}{x:Int}:∀{t:Tr},t.At U c→t.has x→Ee U x=true
 |nil,_,h=>h.elim
 |node _ _ _ _ _,h,hx=>by
  rcases hx with e|e|e
  ·rw[e];exact h.1.us
  ·exact YR h.2.2.1 e
  ·exact YR h.2.2.2 e
theorem agE:∀{t:Tr},t.isN=true→t.has t.IU
 |node _ _ _ _ _,_=> .inl rfl
end Tr
section
variable{g:Geo}{d:Nv.D}{m:Nat}{id:Int}{h:Fq}{pT:Nat}{nm:Int}{w:World}{G:Int→Prop}{A:Nat}
theorem aeO(hE:Dj [MV pT h.pH 5,grp (h.L g d)] w)(hO:F6 d m 40 id h){a:Int}(ha:h.V.getD 5 0=a):Calls prog 79 [ptr pT].toArray w fun e w'=>e= .returned (.int .i64 a)∧Only [] w w':=by
 have HR:=Heap.start hE
 have H:=Heap.nil w
 obtain⟨v0,v1,v2,v3,v4,v5,v6,v7,hV8⟩:=Nu hO.V8.1
 have hVm:(h.V.map (Value.int .i64))=[.int .i64 v0,.int .i64 v1,.int .i64 v2,.int .i64 v3,.int .i64 v4,.int .i64 v5,.int .i64 v6,.int .i64 v7]:=by rw[hV8];rfl
 have hW:=fun{W:World} hE=>acF (g:=g) (d:=d) (h:=h) (w:=W) hE hO
 rw[hVm]at hW
 rw[hV8]at ha
 obtain rfl:v5=a:=ha
 refine BO 13 func79 O (oM ?_)
 refine A8 ?_
 refine G5 mixed ?_;replace H:=H.drew
 refine aN ?_
 refine EC 2 O O O (fun _ hS=>Cm O KY) trivial (EC 5 O O O (fun _ hS=>Cc (v:= .pointer _) O) trivial (EC 6 O O O (fun _ hS=>DT O) trivial (EC 7 O O O (fun _ hS=>Cm O aeL) trivial ?_)))
 refine Et 3 8 ?_ ?_
 ·refine CB O (BG (HR.same H.only) 0 O O O KO (ak ?_))
  refine Et 4 8 ?_ ?_
  ·refine CB O (BL H O (hW ((HR.same H.only).Bl 1 O)) (Tc O) fun W1 H=>rY ?_)
   refine jl ?_
   refine ak ?_
   refine ig ?_
   refine CU (AX (BM (aK ?_)))
   exact⟨rfl,H.only⟩
  ·refine CB O (jl ?_)
   refine jd ?_
   refine BL H O (hW ((HR.same H.only).Bl 1 O)) (Tc O) fun W1 H=>ak ?_
   refine ig ?_
   refine CU (AX (BM (aK ?_)))
   exact⟨rfl,H.only⟩
 ·refine CB O (jl ?_)
  refine lY ?_
  refine BG (HR.same H.only) 0 O O O KO (jd ?_)
  refine BL H O (hW ((HR.same H.only).Bl 1 O)) (Tc O) fun W1 H=>ak ?_
  refine ig ?_
  refine CU (AX (BM (aK ?_)))
  exact⟨rfl,H.only⟩
theorem Vj(hE:Dj [MV pT h.pH nm,grp (h.L g d)] w)(hO:F6 d m 40 id h)(t:Tr)(ht:t.At h.s.U d.cache):Calls prog 88 [ptr pT,.int .i64 t.IU].toArray w fun e w'=>e= .returned (.tuple #[.agg t.rd.toArray,.bool t.isN])∧Only [] w w':=by
 have HR:=Heap.start hE
 have H:=Heap.nil w
 have hSp:=fun{W:World} hE=>aea (g:=g) (d:=d) (h:=h) (w:=W) hE
 have hDv:=fun{W:World} hE=>aa9 (g:=g) (d:=d) (h:=h) (w:=W) hE
 have XF:=fun{W:World} hE=>abq (g:=g) (s:=h.s) (w:=W) hE hO.al.su t.IU
 have hal:=fun{L:List FU} {W:World} (H:Heap w [] L W)=>(Heap.start ((HR.same H.only).Bl 1 rfl)).ar6 1 rfl
 cases t with
 |nil=>
  have hz:Ee h.s.U (Tr.nil).IU=false:=by
   cases e:Ee h.s.U (Tr.nil).IU with
   |false=>rfl
   |true=>have:=(hO.bd e).1;exact absurd this (by show¬(512:Int)≤0;omega)
  rw[hz]at XF
  refine BO 51 func88 O (AP (Ei H O JG fun p4 _ H=>BH O (AO (jW ?_))))
  refine BI O KY (BG (HR.same H.only) 0 O O O KO (BL H O (hSp ((HR.same H.only).Bl 1 O)) (amO O) fun W1 H=>AQ O (BL H O (XF (hal H)) (UD O) fun W1 H=>AV (Ib O) (oV ?_))))
  refine AV (FI (auL) O) (gu ?_)
  clear H;refine axS fun _ H=>?_
  refine BH O (AO (BM (Dx (ND O (JB H 0 O O O Ws Jk) (Jt (v:= .bool _) O) ?_))))
  exact⟨rfl,H.only⟩
 |node a k v l r=>
  obtain⟨⟨hu,hp,hq,hl,hr,hk,hv⟩,_,_,_⟩:=ht
  rw[show Ee h.s.U (Tr.node a k v l r).IU=true from hu]at XF
  have hdl:=hO.dev.len
  have hP:=fun(i:Int) (hi:0≤i∧i<2) {W:World} hE=>agv (g:=g) (d:=d) (w:=W) hE hO.dev.dv.U Y a i (hO.hh _ hu) (by rw[hp];exact hi)
  have hQ:=fun(i:Int) (hi:0≤i∧i<2) {W:World} hE=>ahx (g:=g) (d:=d) (w:=W) hE hO.dev.dv.U Y a i (hO.hh _ hu) (by rw[hq];exact hi)
  have hP0:=fun{W:World} hE=>hP 0 Y (W:=W) hE
  have hP1:=fun{W:World} hE=>hP 1 Y (W:=W) hE
  have hQ0:=fun{W:World} hE=>hQ 0 Y (W:=W) hE
  have hQ1:=fun{W:World} hE=>hQ 1 Y (W:=W) hE
  rw[show a+(1+(0:Int))=a+1 by omega,hl]at hP0
  rw[show a+(1+(1:Int))=a+2 by omega,hr]at hP1
  rw[hp,show a+(1+2+(0:Int))=a+3 by omega,hk]at hQ0
  rw[hp,show a+(1+2+(1:Int))=a+4 by omega,hv]at hQ1
  have hdv:=fun{L:List FU} {W:World} (H:Heap w [] L W)=>(Heap.start ((HR.same H.only).Bl 1 rfl)).abu 1 rfl
  refine BO 51 func88 O (AP (Ei H O JG fun p4 _ H=>BH O (AO (jW ?_))))
  refine BI O KY (BG (HR.same H.only) 0 O O O KO (BL H O (hSp ((HR.same H.only).Bl 1 O)) (amO O) fun W1 H=>AQ O (BL H O (XF (hal H)) (UD O) fun W1 H=>eU ?_)))
  refine dL ?_
  refine BI O KY (BG (HR.same H.only) 0 O O O KO (BL H O (hDv ((HR.same H.only).Bl 1 O)) (aqI O) fun W1 H=>Fb O (AO (AP (Ei H O JG fun p7 _ H=>AO (eH ?_))))))
  refine BL H O (hP0 (hdv H)) (acS O) fun W1 H=>Dt O (CV O O (CV O O (BI O KZ (dI ?_))))
  clear H;refine axS fun _ H=>?_
  refine AO (eH ?_)
  refine BL H O (hP1 (hdv H)) (acS O) fun W1 H=>Dt O (CV O O (CV O O (BI O LU (dI ?_))))
  clear H;refine axS fun _ H=>?_
  refine AO (eH ?_)
  refine BL H O (hQ0 (hdv H)) (aiN O) fun W1 H=>Dt O (CV O O (CV O O (BI O Hy (Ik (u:= .int _ _) H 0 O O O O O O MB ?_))))
  clear H;refine axS fun _ H=>?_
  refine AO (eH ?_)
  refine BL H O (hQ1 (hdv H)) (aiN O) fun W1 H=>Dt O (CV O O (CV O O (BI O Ue (Ik (u:= .int _ _) H 0 O O O O O O MB ?_))))
  clear H;refine axS fun _ H=>?_
  refine AO (AP (Dw H 0 O O O Ws Jk (En H 1 O O O O O O O Jk ?_)))
  clear H;refine axS fun _ H=>?_
  refine BH O (AO (BM (ND O (JB H 1 O O O Ws Jk) (Jt (v:= .bool _) O) ?_)))
  exact⟨rfl,H.only⟩
end
end
end
section
section
open Go.RowKit
def Tr.low:Tr→Tr
 | .nil=> .nil
 | .node a k v .nil r=> .node a k v .nil r
 | .node _ _ _ (.node b x y p q) _=>Tr.low (.node b x y p q)
theorem Tr.acE:∀{t:Tr},t.isN=true→∃a l r,t.low= .node a t.pl.least.1 t.pl.least.2 l r
 | .node a k v .nil r,_=>⟨a,.nil,r,rfl⟩
 | .node _ k v (.node b x y p q) r,_=>by
  obtain⟨a,l,s,h⟩:=acE (t:= .node b x y p q) rfl
  exact⟨a,l,s,h⟩
theorem Tr.alz{U:List Bool}{c:List Int}:∀{t:Tr},t.At U c→t.low.At U c
 | .nil,h=>h
 | .node a k v .nil r,h=>h
 | .node _ k v (.node b x y p q) r,h=>alz (t:= .node b x y p q) h.2.2.1
section
variable{g:Geo}{d:Nv.D}{m:Nat}{id:Int}{h:Fq}{pT:Nat}{nm:Int}{w:World}{G:Int→Prop}{A:Nat}
theorem akl(hE:Dj [MV pT h.pH 5,grp (h.L g d)] w)(hO:F6 d m 40 id h)(T:Tr)(hT:T.At h.s.U d.cache)(hr:h.V.getD 5 0=T.IU)(key:Int):Calls prog 24 [ptr pT,.int .u64 key].toArray w fun e w'=>e= .returned (.tuple #[.int .u64 ((T.pl.get key).getD 0),.bool (T.pl.get key).isSome])∧Only [] w w':=by
 have HR:=Heap.start hE
 have H:=Heap.nil w
 have hRd:=fun(t:Tr) (ht:t.At h.s.U d.cache) {W:World} hE=>Vj (g:=g) (d:=d) (h:=h) (pT:=pT) (nm:=5) (w:=W) hE hO t ht
 have hRo:=fun{W:World} hE=>aeO (g:=g) (d:=d) (h:=h) (pT:=pT) (w:=W) hE hO hr
 refine BO 36 func24 O (AP (oG ?_))
 refine AP (Bg O (BL H O (hRo (HR.same H.only).ents) (aoF O) fun W1 H=>AY O (AO (E8 (EO (fun q f W=>∃t:Tr,q=t.pl.size∧t.At h.s.U d.cache∧t.pl.get key=T.pl.get key∧f 0=ptr pT∧f 1= .int .u64 key∧f 6= .int .i64 t.IU∧Heap w [] [] W) _ ⟨T,rfl,hT,rfl,rfl,rfl,rfl,H⟩ ?_)))))
 clear H
 rintro q f W ⟨t,hq,ht,hg,f0,f1,f6,H⟩
 obtain⟨f,rfl⟩:=KI f0 f1 f6
 clear f0 f1 f6
 have ZH:=fun{W:World} hE=>hRd t ht (W:=W) hE
 cases t with
 |nil=>
  rw[←hg]
  refine E8 (eH ?_)
  refine BL H O (ZH (HR.same H.only).ents) (RY O) fun W1 H=>cO ?_
  refine Ei H O JG fun p7 _ H=>gu ?_
  clear H;refine axS fun _ H=>?_
  refine BH O (AO (E8 (AP (BX O (AV (Ib O) (BH O (oV ?_)))))))
  refine oG ?_
  refine BM (F8 (F8 (Dx (F8 (dS ?_)))))
  exact⟨rfl,H.only⟩
 |node a k v l r=>
  obtain⟨hn,hkv,hl,hrr⟩:=ht
  have hg':(if k=key then some v else if key<k then l.pl.get key else r.pl.get key)=T.pl.get key:=hg
  have hsz:(Tr.node a k v l r).pl.size=l.pl.size+1+r.pl.size:=rfl
  by_cases e1:k=key
  ·rw[if_pos e1]at hg'
   rw[←hg']
   refine E8 (eH ?_)
   refine BL H O (ZH (HR.same H.only).ents) (RY O) fun W1 H=>cO ?_
   refine Ei H O JG fun p7 _ H=>gu ?_
   clear H;refine axS fun _ H=>?_
   refine BH O (AO (ny ?_))
   refine pJ ?_
   refine BI O Ue (BG H 0 O O O Gh (oG ?_))
   refine BM (F8 (F8 (Dx (F8 (dS ?_)))))
   exact⟨rfl,H.only⟩
  ·rw[if_neg e1]at hg'
   by_cases e2:key<k
   ·rw[if_pos e2]at hg'
    refine E8 (eH ?_)
    refine BL H O (ZH (HR.same H.only).ents) (RY O) fun W1 H=>cO ?_
    refine Ei H O JG fun p7 _ H=>gu ?_
    clear H;refine axS fun _ H=>?_
    refine BH O (AO (uz ?_))
    refine AV (DI O O Y) (BH O (AO (EF O (DF (rQ ?_)))))
    refine AY O (AZ (CS (CS (Dk ?_))))
    exact⟨_,_,Y,rfl,l,rfl,hl,hg',rfl,rfl,rfl,H.drop⟩
   ·rw[if_neg e2]at hg'
    refine E8 (eH ?_)
    refine BL H O (ZH (HR.same H.only).ents) (RY O) fun W1 H=>cO ?_
    refine Ei H O JG fun p7 _ H=>gu ?_
    clear H;refine axS fun _ H=>?_
    refine BH O (AO (uz ?_))
    refine AV (Di O O Y) (BH O (AO (DC O (DF (BI O LU (fV ?_))))))
    refine AY O (AZ (CS (CS (Dk ?_))))
    exact⟨_,_,Y,rfl,r,rfl,hrr,hg',rfl,rfl,rfl,H.drop⟩
theorem aoW(hE:Dj [MV pT h.pH nm,grp (h.L g d)] w)(hO:F6 d m 40 id h)(T:Tr)(hT:T.At h.s.U d.cache)(hN:T.isN=true):Calls prog 150 [ptr pT,.int .i64 T.IU].toArray w fun e w'=>e= .returned (.int .i64 T.low.IU)∧Only [] w w':=by
 have HR:=Heap.start hE
 have H:=Heap.nil w
 have hRd:=fun(t:Tr) (ht:t.At h.s.U d.cache) {W:World} hE=>Vj (g:=g) (d:=d) (h:=h) (pT:=pT) (nm:=nm) (w:=W) hE hO t ht
 refine BO 19 func150 O (oM ?_)
 refine E8 (EO (fun q f W=>∃t:Tr,q=t.pl.size∧t.At h.s.U d.cache∧t.isN=true∧t.low=T.low∧f 0=ptr pT∧f 1= .int .i64 t.IU∧Heap w [] [] W) _ ⟨T,rfl,hT,hN,rfl,rfl,rfl,H⟩ ?_)
 clear H
 rintro qq f W ⟨t,hq,ht,hn,hlw,f0,f1,H⟩
 obtain⟨f,rfl⟩:=LZ f0 f1
 clear f0 f1
 have ZH:=fun{W:World} hE=>hRd t ht (W:=W) hE
 cases t with
 |nil=>cases hn
 |node a k v l r=>
  obtain⟨hnd,hkv,hl,hrr⟩:=ht
  have hsz:(Tr.node a k v l r).pl.size=l.pl.size+1+r.pl.size:=rfl
  cases l with
  |nil=>
   have hz0:Tr.nil.IU=0:=rfl
   rw[←hlw]
   refine E8 (eH ?_)
   refine BL H O (ZH (HR.same H.only).ents) (RY O) fun W1 H=>cO ?_
   refine Ei H O JG fun p5 _ H=>gu ?_
   clear H;refine axS fun _ H=>?_
   refine BH O (AO (A8 (AP (rQ ?_))))
   refine AV (D7 O O Y) (oV ?_)
   refine AQ O (xA ?_)
   refine Dx (F8 (Dx (F8 (aK ?_))))
   exact⟨rfl,H.only⟩
  |node b x y p q=>
   have h0:(Tr.node b x y p q).IU≠0:=fun e=>by have:=(hO.bd hl.1.us).1;have:b=0:=e;omega
   refine E8 (eH ?_)
   refine BL H O (ZH (HR.same H.only).ents) (RY O) fun W1 H=>cO ?_
   refine Ei H O JG fun p5 _ H=>gu ?_
   clear H;refine axS fun _ H=>?_
   refine BH O (AO (A8 (AP (rQ ?_))))
   refine kC ?_
   refine DF (rQ ?_)
   refine AY O (AZ (CS (Dk ?_)))
   exact⟨_,_,Y,rfl,.node b x y p q,rfl,hl,rfl,hlw,rfl,rfl,H.drop⟩
end
end
end
section
section
open Go.RowKit
theorem Rest.mono{d:Nv.D}{h:Fq}{m:Nat}{id:Int}{G:Int→Prop}{A B:Nat}(R:Rest d m id h G A)(hB:A≤B):Rest d m id h G B:=⟨R.ok,R.gc,R.cl,R.cp.mono hB,R.mu⟩
theorem Nd.ext{d d':Nv.D}{h h':Fq}{m:Nat}{id:Int}{a l r k v:Int}(hO:F6 d m 40 id h)(hD:Dv d' m)(X:Ext d d' h h')(N:Nd h.s.U d.cache a l r k v):Nd h'.s.U d'.cache a l r k v:=by
 have s:=X.sm a N.us
 obtain⟨_,h1,h2,_⟩:=s.all hO hD
 have ho:RX d.cache a=5:=by unfold RX;rw[N.hp,N.hq];omega
 refine⟨X.us a N.us,h1.trans N.hp,h2.trans N.hq,?_,?_,?_,?_⟩
 ·rw[←N.l];unfold Ob.UL;rw[s _ Y Y]
 ·rw[←N.r];unfold Ob.UL;rw[s _ Y Y]
 ·rw[←N.k];exact s _ Y Y
 ·rw[←N.v];exact s _ Y Y
theorem Tr.At.ext{d d':Nv.D}{h h':Fq}{m:Nat}{id:Int}(hO:F6 d m 40 id h)(hD:Dv d' m)(X:Ext d d' h h'):∀{t:Tr},t.At h.s.U d.cache→t.At h'.s.U d'.cache
 | .nil,_=>trivial
 | .node _ _ _ _ _,ht=>⟨ht.1.ext hO hD X,ht.2.1,Tr.At.ext hO hD X ht.2.2.1,Tr.At.ext hO hD X ht.2.2.2⟩
section
variable{g:Geo}{m:Nat}{id:Int}{pT:Nat}{nm:Int}
theorem auX(hg:Q5 g m){key val:Int}(hk:Ui key)(hv:Ui val)(T:Tr):∀{d:Nv.D} {h:Fq} {w:World} {G:Int→Prop} {A:Nat} {x y u0 v0:Int} (hE:Dj [MV pT h.pH nm,grp (h.L g d)] w) (R:Rest d m id h G A) (hT:T.At h.s.U d.cache) (hG:∀x,T.has x→G x) (hA:A+T.pl.size≤1800) (hrg:h.rg=Pj x y u0 v0),
 Calls prog 78 [ptr pT,.int .i64 T.IU,.int .u64 key,.int .u64 val].toArray w fun e w'=>∃(d':Nv.D) (h':Fq) (T':Tr) (G':Int→Prop) (u1 v1:Int),Rest d' m id h' G' (A+T.pl.size+1)∧Ext d d' h h'∧T'.At h'.s.U d'.cache∧T'.pl=T.pl.ins key val∧(∀t,G t→G' t)∧(∀t,T'.has t→G' t)∧T'.isN=true∧h'.rg=Pj x y u1 v1∧e= .returned (.tuple #[.int .i64 T'.IU,.int .i64 0])∧Heap w (ids [MV pT h.pH nm,grp (h.L g d)]) [MV pT h.pH nm,grp (h'.L g d')] w':=by
 induction T with
 |nil=>
  intro d h w G A x y u0 v0 hE R hT hG hA hrg
  have H:=Heap.start hE
  have ZH:=fun{W:World} hE=>Vj (g:=g) (d:=d) (h:=h) (pT:=pT) (nm:=nm) (w:=W) hE R.ok .nil hT
  generalize ids [MV pT h.pH nm,grp (h.L g d)]=I at*
  have Xh:=fun{W:World} hE=>TP (g:=g) (d:=d) (h:=h) (pT:=pT) (nm:=nm) (w:=W) hE R hg Y hrg 0 0 key val (.inl rfl) (.inl rfl) hk hv
  refine BO 77 func78 O (lW ?_)
  refine BL H O (ZH (H.BQ [0,1] O O).ents) (RY O) fun W1 H=>cO ?_
  refine Ei H O JG fun p10 _ H=>gu ?_
  clear H;refine axS fun _ H=>?_
  refine BH O (AO (A8 (E8 (AP (BX O (AV (Ib O) (BH O (AO (EF O (eH ?_))))))))))
  refine AQ O (AV (FI (ajO _ _) O) (s_call O (Xh (H.BQ [1,2] O O).ents) (aay O) ?_))
  rintro e W1 ⟨d1,h1,a,y1,R1,X1,hf,N,hrg1,rfl,H'⟩
  refine⟨_,rfl,?_⟩
  have H:=(H.order [1,2,0] rfl rfl:Heap w I ([_,_]++ [_]) _).step H' (fun i hi=>hi);clear H';simp only[Bv]at H
  refine bJ ?_
  refine AO (BM (F8 (Dx (aX ?_))))
  exact⟨d1,h1,.node a key val .nil .nil,_,_,_,R1,X1,⟨N,⟨hk,hv⟩,trivial,trivial⟩,rfl,fun t=> .inl,fun t ht=> .inr (by rcases ht with e|e|e;exact e;exact e.elim;exact e.elim),rfl,hrg1,rfl,H.BQ [0,1] rfl rfl⟩
 |node a k v l r ihl ihr=>
  intro d h w G A x y u0 v0 hE R hT hG hA hrg
  have H:=Heap.start hE
  have ZH:=fun{W:World} hE=>Vj (g:=g) (d:=d) (h:=h) (pT:=pT) (nm:=nm) (w:=W) hE R.ok (.node a k v l r) hT
  have hsz:(Tr.node a k v l r).pl.size=l.pl.size+1+r.pl.size:=rfl
  have hins:(Tr.node a k v l r).pl.ins key val=if k=key then .node k val l.pl r.pl else if key<k then .node k v (l.pl.ins key val) r.pl else .node k v l.pl (r.pl.ins key val):=rfl
  obtain⟨hn,⟨hk0,hv0⟩,hl,hr⟩:=hT
  have hGl:∀t,l.has t→G t:=fun t ht=>hG t (.inr (.inl ht))
  have hGr:∀t,r.has t→G t:=fun t ht=>hG t (.inr (.inr ht))
  by_cases e1:k=key
  ·rw[if_pos e1]at hins
   generalize ids [MV pT h.pH nm,grp (h.L g d)]=I at*
   have Xh:=fun{W:World} hE=>TP (g:=g) (d:=d) (h:=h) (pT:=pT) (nm:=nm) (w:=W) hE R hg Y hrg l.IU r.IU k val (Tr.Ou hl) (Tr.Ou hr) hk0 hv
   refine BO 77 func78 O (lW ?_)
   refine BL H O (ZH (H.BQ [0,1] O O).ents) (RY O) fun W1 H=>cO ?_
   refine Ei H O JG fun p10 _ H=>gu ?_
   clear H;refine axS fun _ H=>?_
   refine BH O (AO (A8 (ny ?_)))
   refine iO ?_
   refine AO (EF O (DF (AQ O (BI O Ue (Ik (u:= .int _ _) H 0 O O O O O O MB ?_)))))
   clear H;refine axS fun _ H=>?_
   refine AZ (CS (AX (AP (Bg O (Dw H 0 O O O Ws Jk (s_call O (Xh (H.BQ [1,2] O O).ents) (aay O) ?_))))))
   rintro e W1 ⟨d1,h1,b,y1,R1,X1,hf,N,hrg1,rfl,H'⟩
   refine⟨_,rfl,?_⟩
   have H:=(H.order [1,2,0] rfl rfl:Heap w I ([_,_]++ [_]) _).step H' (fun i hi=>hi);clear H';simp only[Bv]at H
   refine tV ?_
   refine⟨d1,h1,.node b k val l r,_,_,_,R1.mono Y,X1,⟨N,⟨hk0,hv⟩,hl.ext R.ok R1.ok.dev.dv X1,hr.ext R.ok R1.ok.dev.dv X1⟩,hins.symm,fun t=> .inl,fun t ht=>?_,rfl,hrg1,rfl,H.BQ [0,1] O O⟩
   rcases ht with e|e|e
   ·exact .inr e
   ·exact .inl (hGl t e)
   ·exact .inl (hGr t e)
  ·rw[if_neg e1]at hins
   by_cases e2:key<k
   ·rw[if_pos e2]at hins
    generalize ids [MV pT h.pH nm,grp (h.L g d)]=I at*
    have hP:=fun{W:World} hE=>ihl (d:=d) (h:=h) (w:=W) (A:=A) hE R hl hGl Y hrg
    refine BO 77 func78 O (lW ?_)
    refine BL H O (ZH (H.BQ [0,1] O O).ents) (RY O) fun W1 H=>cO ?_
    refine Ei H O JG fun p10 _ H=>gu ?_
    clear H;refine axS fun _ H=>?_
    refine BH O (AO (A8 (uz ?_)))
    refine AV (DI O O Y) (BH O (oV ?_))
    refine Bg O (rQ ?_)
    refine AQ O (AQ O (s_call O (hP (H.BQ [1,2] O O).ents) (aqC O) ?_))
    rintro e W1 ⟨d1,h1,T1,G1,u1,v1,R1,X1,hT1,hp1,hg1,hh1,hn1,hrg1,rfl,H'⟩
    refine⟨_,rfl,?_⟩
    have H:=(H.order [1,2,0] rfl rfl:Heap w I ([_,_]++ [_]) _).step H' (fun i hi=>hi);clear H';simp only[Bv]at H
    refine pG ?_
    have Wn:h1.pH=h.pH:=by have:=congrArg Fq.pH X1.e;exact this
    have Xh:=fun{W:World} hE=>TP (g:=g) (d:=d1) (h:=h1) (pT:=pT) (nm:=nm) (w:=W) hE R1 hg Y hrg1 T1.IU r.IU k v (Tr.Ou hT1) (Tr.Ou (hr.ext R.ok R1.ok.dev.dv X1)) hk0 hv0
    rw[Wn]at Xh
    refine DF (AQ O (BI O KZ (Ik (u:= .int _ _) H 2 O O O O O O Ji ?_)))
    clear H;refine axS fun _ H=>?_
    refine AZ (CS (AX (AP (kM ?_))))
    rintro e W1 ⟨d2,h2,b,y1,R2,X2,hf,N,hrg2,rfl,H'⟩
    refine⟨_,rfl,?_⟩
    have H:=(H:Heap w I ([_,_]++ [_]) _).step H' (fun i hi=>hi);clear H';simp only[Bv]at H
    refine tV ?_
    refine⟨d2,h2,.node b k v T1 r,_,_,_,R2.mono Y,X1.trans X2 R.ok R1.ok.dev.dv,⟨N,⟨hk0,hv0⟩,hT1.ext R1.ok R2.ok.dev.dv X2,(hr.ext R.ok R1.ok.dev.dv X1).ext R1.ok R2.ok.dev.dv X2⟩,?_,fun t ht=> .inl (hg1 t ht),fun t ht=>?_,rfl,hrg2,rfl,H.BQ [0,1] O O⟩
    ·rw[hins,←hp1];rfl
    ·rcases ht with e|e|e
     ·exact .inr e
     ·exact .inl (hh1 t e)
     ·exact .inl (hg1 t (hGr t e))
   ·rw[if_neg e2]at hins
    generalize ids [MV pT h.pH nm,grp (h.L g d)]=I at*
    have hP:=fun{W:World} hE=>ihr (d:=d) (h:=h) (w:=W) (A:=A) hE R hr hGr Y hrg
    refine BO 77 func78 O (lW ?_)
    refine BL H O (ZH (H.BQ [0,1] O O).ents) (RY O) fun W1 H=>cO ?_
    refine Ei H O JG fun p10 _ H=>gu ?_
    clear H;refine axS fun _ H=>?_
    refine BH O (AO (A8 (uz ?_)))
    refine AV (Di O O Y) (BH O (AO (DC O (AP (Bg O (BI O LU (fV ?_)))))))
    refine AQ O (AQ O (s_call O (hP (H.BQ [1,2] O O).ents) (aqC O) ?_))
    rintro e W1 ⟨d1,h1,T1,G1,u1,v1,R1,X1,hT1,hp1,hg1,hh1,hn1,hrg1,rfl,H'⟩
    refine⟨_,rfl,?_⟩
    have H:=(H.order [1,2,0] rfl rfl:Heap w I ([_,_]++ [_]) _).step H' (fun i hi=>hi);clear H';simp only[Bv]at H
    refine pG ?_
    have Wn:h1.pH=h.pH:=by have:=congrArg Fq.pH X1.e;exact this
    have Xh:=fun{W:World} hE=>TP (g:=g) (d:=d1) (h:=h1) (pT:=pT) (nm:=nm) (w:=W) hE R1 hg Y hrg1 l.IU T1.IU k v (Tr.Ou (hl.ext R.ok R1.ok.dev.dv X1)) (Tr.Ou hT1) hk0 hv0
    rw[Wn]at Xh
    refine DF (AQ O (BI O LU (Ik (u:= .int _ _) H 2 O O O O O O Ji ?_)))
    clear H;refine axS fun _ H=>?_
    refine AZ (CS (AX (AP (kM ?_))))
    rintro e W1 ⟨d2,h2,b,y1,R2,X2,hf,N,hrg2,rfl,H'⟩
    refine⟨_,rfl,?_⟩
    have H:=(H:Heap w I ([_,_]++ [_]) _).step H' (fun i hi=>hi);clear H';simp only[Bv]at H
    refine tV ?_
    refine⟨d2,h2,.node b k v l T1,_,_,_,R2.mono Y,X1.trans X2 R.ok R1.ok.dev.dv,⟨N,⟨hk0,hv0⟩,(hl.ext R.ok R1.ok.dev.dv X1).ext R1.ok R2.ok.dev.dv X2,hT1.ext R1.ok R2.ok.dev.dv X2⟩,?_,fun t ht=> .inl (hg1 t ht),fun t ht=>?_,rfl,hrg2,rfl,H.BQ [0,1] O O⟩
    ·rw[hins,←hp1];rfl
    ·rcases ht with e|e|e
     ·exact .inr e
     ·exact .inl (hg1 t (hGl t e))
     ·exact .inl (hh1 t e)
end
end
end
section
section
open Go.RowKit
theorem Tr.alv:∀{t:Tr},t.isN=false→t= .nil
 | .nil,_=>rfl
theorem Tr.aeK:∀(t:Tr),t.pl.isNil= !t.isN
 | .nil=>rfl
 | .node _ _ _ _ _=>rfl
theorem Tr.alg{d:Nv.D}{h:Fq}{m:Nat}{id:Int}(hO:F6 d m 40 id h):∀{t:Tr},t.At h.s.U d.cache→t.isN=true→t.IU≠0
 | .node a _ _ _ _,ht,_=>fun e=>by have:=(hO.bd ht.1.us).1;have e':a=0:=e;omega
theorem Tr.aio{U:List Bool}{c:List Int}:∀{t:Tr},t.At U c→t.isN=true→Ui t.pl.least.1∧Ui t.pl.least.2
 | .node a k v .nil r,h,_=>h.2.1
 | .node _ k v (.node b x y p q) r,h,_=>Tr.aio (t:= .node b x y p q) h.2.2.1 rfl
section
variable{g:Geo}{m:Nat}{id:Int}{pT:Nat}{nm:Int}
theorem auc(hg:Q5 g m)(T:Tr):∀{key:Int} {d:Nv.D} {h:Fq} {w:World} {G:Int→Prop} {A:Nat} {x y u0 v0:Int} (hE:Dj [MV pT h.pH nm,grp (h.L g d)] w) (R:Rest d m id h G A) (hT:T.At h.s.U d.cache) (hG:∀x,T.has x→G x) (hA:A+T.pl.size≤1800) (hrg:h.rg=Pj x y u0 v0),
 Calls prog 81 [ptr pT,.int .i64 T.IU,.int .u64 key].toArray w fun e w'=>∃(d':Nv.D) (h':Fq) (T':Tr) (G':Int→Prop) (u1 v1:Int),Rest d' m id h' G' (A+T.pl.size)∧Ext d d' h h'∧T'.At h'.s.U d'.cache∧T'.pl=T.pl.del key∧(∀t,G t→G' t)∧(∀t,T'.has t→G' t)∧h'.rg=Pj x y u1 v1∧e= .returned (.tuple #[.int .i64 T'.IU,.int .i64 0])∧Heap w (ids [MV pT h.pH nm,grp (h.L g d)]) [MV pT h.pH nm,grp (h'.L g d')] w':=by
 induction T with
 |nil=>
  intro key d h w G A x y u0 v0 hE R hT hG hA hrg
  have H:=Heap.start hE
  have ZH:=fun{W:World} hE=>Vj (g:=g) (d:=d) (h:=h) (pT:=pT) (nm:=nm) (w:=W) hE R.ok .nil hT
  generalize ids [MV pT h.pH nm,grp (h.L g d)]=I at*
  refine wM ?_
  refine BL H O (ZH (H.BQ [0,1] O O).ents) (RY O) fun W1 H=>cO ?_
  refine Ei H O JG fun p8 _ H=>gu ?_
  clear H;refine axS fun _ H=>?_
  refine BH O (AO (A8 (AP (BX O (AV (Ib O) (oV ?_))))))
  refine nC ?_
  exact⟨d,h,.nil,G,_,_,R,Ext.refl d h,trivial,rfl,fun t ht=>ht,fun t ht=>ht.elim,hrg,rfl,H.BQ [1,2] rfl rfl⟩
 |node a k v l r ihl ihr=>
  intro key d h w G A x y u0 v0 hE R hT hG hA hrg
  have H:=Heap.start hE
  have ZH:=fun{W:World} hE=>Vj (g:=g) (d:=d) (h:=h) (pT:=pT) (nm:=nm) (w:=W) hE R.ok (.node a k v l r) hT
  have hsz:(Tr.node a k v l r).pl.size=l.pl.size+1+r.pl.size:=rfl
  have hdel:(Tr.node a k v l r).pl.del key=if key<k then .node k v (l.pl.del key) r.pl else if k<key then .node k v l.pl (r.pl.del key)else if l.pl.isNil=true then r.pl else if r.pl.isNil=true then l.pl else .node r.pl.least.1 r.pl.least.2 l.pl (r.pl.del r.pl.least.1):=rfl
  obtain⟨hn,⟨hk0,hv0⟩,hl,hr⟩:=hT
  have hGl:∀t,l.has t→G t:=fun t ht=>hG t (.inr (.inl ht))
  have hGr:∀t,r.has t→G t:=fun t ht=>hG t (.inr (.inr ht))
  by_cases e1:key<k
  ·rw[if_pos e1]at hdel
   generalize ids [MV pT h.pH nm,grp (h.L g d)]=I at*
   have hP:=fun{W:World} hE=>ihl (key:=key) (d:=d) (h:=h) (w:=W) (A:=A) hE R hl hGl Y hrg
   refine wM ?_
   refine BL H O (ZH (H.BQ [0,1] O O).ents) (RY O) fun W1 H=>cO ?_
   refine Ei H O JG fun p8 _ H=>gu ?_
   clear H;refine axS fun _ H=>?_
   refine BH O (AO (ru ?_))
   refine iZ ?_
   refine gy ?_
   refine AV (DI O O Y) (BH O (AO (EF O (DF (Bg O (rQ ?_))))))
   refine AQ O (s_call O (hP (H.BQ [1,2] O O).ents) (anY O) ?_)
   rintro e W1 ⟨d1,h1,T1,G1,u1,v1,R1,X1,hT1,hp1,hg1,hh1,hrg1,rfl,H'⟩
   refine⟨_,rfl,?_⟩
   have H:=(H.order [1,2,0] rfl rfl:Heap w I ([_,_]++ [_]) _).step H' (fun i hi=>hi);clear H';simp only[Bv]at H
   refine Dt O (CV O O (CV O O (BI O KZ (Ik (u:= .int _ _) H 2 O O O O O O Ji ?_))))
   clear H;refine axS fun _ H=>?_
   refine AY O (AZ (CS (AX (gI ?_))))
   refine A8 ?_
   have Wn:h1.pH=h.pH:=by have:=congrArg Fq.pH X1.e;exact this
   have Xh:=fun{W:World} hE=>TP (g:=g) (d:=d1) (h:=h1) (pT:=pT) (nm:=nm) (w:=W) hE R1 hg Y hrg1 T1.IU r.IU k v (Tr.Ou hT1) (Tr.Ou (hr.ext R.ok R1.ok.dev.dv X1)) hk0 hv0
   rw[Wn]at Xh
   refine DF (kM ?_)
   rintro e W1 ⟨d2,h2,b,y1,R2,X2,hf,N,hrg2,rfl,H'⟩
   refine⟨_,rfl,?_⟩
   have H:=(H:Heap w I ([_,_]++ [_]) _).step H' (fun i hi=>hi);clear H';simp only[Bv]at H
   refine tV ?_
   refine⟨d2,h2,.node b k v T1 r,_,_,_,R2.mono Y,X1.trans X2 R.ok R1.ok.dev.dv,⟨N,⟨hk0,hv0⟩,hT1.ext R1.ok R2.ok.dev.dv X2,(hr.ext R.ok R1.ok.dev.dv X1).ext R1.ok R2.ok.dev.dv X2⟩,?_,fun t ht=> .inl (hg1 t ht),fun t ht=>?_,hrg2,rfl,H.BQ [0,1] O O⟩
   ·rw[hdel,←hp1];rfl
   ·rcases ht with e|e|e
    ·exact .inr e
    ·exact .inl (hh1 t e)
    ·exact .inl (hg1 t (hGr t e))
  ·rw[if_neg e1]at hdel
   by_cases e2:k<key
   ·rw[if_pos e2]at hdel
    generalize ids [MV pT h.pH nm,grp (h.L g d)]=I at*
    have hP:=fun{W:World} hE=>ihr (key:=key) (d:=d) (h:=h) (w:=W) (A:=A) hE R hr hGr Y hrg
    refine wM ?_
    refine BL H O (ZH (H.BQ [0,1] O O).ents) (RY O) fun W1 H=>cO ?_
    refine Ei H O JG fun p8 _ H=>gu ?_
    clear H;refine axS fun _ H=>?_
    refine kP ?_
    refine AV (Oz O O Y) (BH O (AO (EF O (DF (Bg O (BI O LU (fV ?_)))))))
    refine AQ O (s_call O (hP (H.BQ [1,2] O O).ents) (anY O) ?_)
    rintro e W1 ⟨d1,h1,T1,G1,u1,v1,R1,X1,hT1,hp1,hg1,hh1,hrg1,rfl,H'⟩
    refine⟨_,rfl,?_⟩
    have H:=(H.order [1,2,0] rfl rfl:Heap w I ([_,_]++ [_]) _).step H' (fun i hi=>hi);clear H';simp only[Bv]at H
    refine Dt O (CV O O (CV O O (BI O LU (Ik (u:= .int _ _) H 2 O O O O O O Ji ?_))))
    clear H;refine axS fun _ H=>?_
    refine AY O (AZ (CS (AX (gI ?_))))
    refine A8 ?_
    have Wn:h1.pH=h.pH:=by have:=congrArg Fq.pH X1.e;exact this
    have Xh:=fun{W:World} hE=>TP (g:=g) (d:=d1) (h:=h1) (pT:=pT) (nm:=nm) (w:=W) hE R1 hg Y hrg1 l.IU T1.IU k v (Tr.Ou (hl.ext R.ok R1.ok.dev.dv X1)) (Tr.Ou hT1) hk0 hv0
    rw[Wn]at Xh
    refine DF (kM ?_)
    rintro e W1 ⟨d2,h2,b,y1,R2,X2,hf,N,hrg2,rfl,H'⟩
    refine⟨_,rfl,?_⟩
    have H:=(H:Heap w I ([_,_]++ [_]) _).step H' (fun i hi=>hi);clear H';simp only[Bv]at H
    refine tV ?_
    refine⟨d2,h2,.node b k v l T1,_,_,_,R2.mono Y,X1.trans X2 R.ok R1.ok.dev.dv,⟨N,⟨hk0,hv0⟩,(hl.ext R.ok R1.ok.dev.dv X1).ext R1.ok R2.ok.dev.dv X2,hT1.ext R1.ok R2.ok.dev.dv X2⟩,?_,fun t ht=> .inl (hg1 t ht),fun t ht=>?_,hrg2,rfl,H.BQ [0,1] O O⟩
    ·rw[hdel,←hp1];rfl
    ·rcases ht with e|e|e
     ·exact .inr e
     ·exact .inl (hg1 t (hGl t e))
     ·exact .inl (hh1 t e)
   ·rw[if_neg e2]at hdel
    have ek:key=k:=Y
    cases hln:l.isN with
    |false=>
     rw[if_pos (by rw[Tr.aeK,hln];rfl)]at hdel
     obtain rfl:=Tr.alv hln
     have hz0:Tr.nil.IU=0:=rfl
     generalize ids [MV pT h.pH nm,grp (h.L g d)]=I at*
     refine wM ?_
     refine BL H O (ZH (H.BQ [0,1] O O).ents) (RY O) fun W1 H=>cO ?_
     refine Ei H O JG fun p8 _ H=>gu ?_
     clear H;refine axS fun _ H=>?_
     refine wJ ?_
     refine pJ ?_
     refine BI O LU (fV ?_)
     refine kG ?_
     refine BM (F8 (Dx (aX ?_)))
     exact⟨d,h,r,G,_,_,R.mono Y,Ext.refl d h,hr,hdel.symm,fun t ht=>ht,hGr,hrg,rfl,H.BQ [1,2] rfl rfl⟩
    |true=>
     rw[if_neg (by rw[Tr.aeK,hln];simp)]at hdel
     have hl0:=Tr.alg R.ok hl hln
     cases hrn:r.isN with
     |false=>
      rw[if_pos (by rw[Tr.aeK,hrn];rfl)]at hdel
      obtain rfl:=Tr.alv hrn
      have hz0:Tr.nil.IU=0:=rfl
      generalize ids [MV pT h.pH nm,grp (h.L g d)]=I at*
      refine wM ?_
      refine BL H O (ZH (H.BQ [0,1] O O).ents) (RY O) fun W1 H=>cO ?_
      refine Ei H O JG fun p8 _ H=>gu ?_
      clear H;refine axS fun _ H=>?_
      refine wJ ?_
      refine iq ?_
      refine BI O LU (fV ?_)
      refine pJ ?_
      refine rQ ?_
      refine kG ?_
      refine BM (F8 (Dx (aX ?_)))
      exact⟨d,h,l,G,_,_,R.mono Y,Ext.refl d h,hl,hdel.symm,fun t ht=>ht,hGl,hrg,rfl,H.BQ [1,2] rfl rfl⟩
     |true=>
      rw[if_neg (by rw[Tr.aeK,hrn];simp)]at hdel
      have hr0:=Tr.alg R.ok hr hrn
      have hlu:=Tr.aio hr hrn
      have hLs:=fun{W:World} hE=>aoW (g:=g) (d:=d) (h:=h) (pT:=pT) (nm:=nm) (w:=W) hE R.ok r hr hrn
      have hR2:=fun{W:World} hE=>Vj (g:=g) (d:=d) (h:=h) (pT:=pT) (nm:=nm) (w:=W) hE R.ok r.low (Tr.alz hr)
      obtain⟨b,l2,r2,hlow⟩:=Tr.acE hrn
      rw[hlow]at hR2
      generalize r.pl.least=ml at*
      obtain⟨mk,mv⟩:=ml
      have hlw:(Tr.node b mk mv l2 r2).IU=r.low.IU:=by rw[hlow]
      rw[hlw]at hR2
      generalize r.low.IU=la at*
      generalize ids [MV pT h.pH nm,grp (h.L g d)]=I at*
      have hP:=fun{W:World} hE=>ihr (key:=mk) (d:=d) (h:=h) (w:=W) (A:=A) hE R hr hGr Y hrg
      refine wM ?_
      refine BL H O (ZH (H.BQ [0,1] O O).ents) (RY O) fun W1 H=>cO ?_
      refine Ei H O JG fun p8 _ H=>gu ?_
      clear H;refine axS fun _ H=>?_
      refine wJ ?_
      refine iq ?_
      refine BI O LU (fV ?_)
      refine iq ?_
      refine Bg O (Bg O (BI O LU (fV ?_)))
      refine BL H O (hLs (H.BQ [1,2] O O).ents) (atC O) fun W1 H=>BL H O (hR2 (H.BQ [1,2] O O).ents) (RY O) fun W1 H=>cO ?_
      refine Ei H O JG fun p11 _ H=>gu ?_
      clear H;refine axS fun _ H=>?_
      refine BH O (AO (A8 ?_))
      refine Gl (fun f W=>f 0=ptr pT∧f 8=ptr p8∧f 11=ptr p11∧Heap w I [blk p11 [.int .i64 l2.IU,.int .i64 r2.IU,.int .u64 mk,.int .u64 mv] 161,blk p8 [.int .i64 l.IU,.int .i64 r.IU,.int .u64 mk,.int .u64 mv] 161,MV pT h.pH nm,grp (h.L g d)] W) ?_ ?_
      ·refine JQ (A:=[_]) mixed H [0] O ?_;replace H:=H.drew
       refine CZ 0 O O O (fun _ hS=>Cm O Hy) (H.BQ [0] O O) (CZ 1 O O O (fun _ hS=>DR hS 0 O O O Gh) (H.BQ [0] O O) (CZ 2 O O O (fun _ hS=>Cm O Ue) (H.BQ [0] O O) (CZ 3 O O O (fun _ hS=>DR hS 0 O O O Gh) (H.BQ [0] O O) (CZ 4 O O O (fun _ hS=>Cm O Hy) (H.BQ [0] O O) (BD 5 O (Ik (u:= .int _ _) H 1 O O O O O O MB ?_))))))
       clear H;refine axS fun _ H=>?_
       refine dh ?_
       refine CZ 6 O O O (fun _ hS=>Cm O Ue) (H.BQ [0] O O) (BD 7 O (Ik (u:= .int _ _) H 1 O O O O O O MB ?_))
       clear H;refine axS fun _ H=>?_
       refine dh ?_
       refine CU (Dp ?_)
       exact⟨rfl,rfl,rfl,H⟩
      clear H
      rintro f W ⟨f0,f8,f11,H⟩
      obtain⟨f,rfl⟩:=KI f0 f8 f11
      clear f0 f8 f11
      refine AX (DF (Bg O (BI O LU (BG H 1 O O O FM (gy ?_)))))
      refine s_call O (hP (H.BQ [2,3] O O).ents) (anY O) ?_
      rintro e W1 ⟨d1,h1,T1,G1,u1,v1,R1,X1,hT1,hp1,hg1,hh1,hrg1,rfl,H'⟩
      refine⟨_,rfl,?_⟩
      have H:=(H.order [2,3,0,1] rfl rfl:Heap w I ([_,_]++ [_,_]) _).step H' (fun i hi=>hi);clear H';simp only[Bv]at H
      refine Dt O (CV O O (CV O O (BI O LU (Ik (u:= .int _ _) H 3 O O O O O O Ji ?_))))
      clear H;refine axS fun _ H=>?_
      refine AY O (AZ (CS (AX (gI ?_))))
      refine A8 ?_
      have Wn:h1.pH=h.pH:=by have:=congrArg Fq.pH X1.e;exact this
      have Xh:=fun{W:World} hE=>TP (g:=g) (d:=d1) (h:=h1) (pT:=pT) (nm:=nm) (w:=W) hE R1 hg Y hrg1 l.IU T1.IU mk mv (Tr.Ou (hl.ext R.ok R1.ok.dev.dv X1)) (Tr.Ou hT1) hlu.1 hlu.2
      rw[Wn]at Xh
      refine DF (Bg O (Dw H 3 O O O Ws Jk (s_call O (Xh (H.BQ [0,1] O O).ents) (aay O) ?_)))
      rintro e W1 ⟨d2,h2,b2,y1,R2,X2,hf,N,hrg2,rfl,H'⟩
      refine⟨_,rfl,?_⟩
      have H:=(H:Heap w I ([_,_]++ [_,_]) _).step H' (fun i hi=>hi);clear H';simp only[Bv]at H
      refine tV ?_
      refine⟨d2,h2,.node b2 mk mv l T1,_,_,_,R2.mono Y,X1.trans X2 R.ok R1.ok.dev.dv,⟨N,hlu,(hl.ext R.ok R1.ok.dev.dv X1).ext R1.ok R2.ok.dev.dv X2,hT1.ext R1.ok R2.ok.dev.dv X2⟩,?_,fun t ht=> .inl (hg1 t ht),fun t ht=>?_,hrg2,rfl,H.BQ [0,1] O O⟩
      ·rw[hdel,←hp1];rfl
      ·rcases ht with e|e|e
       ·exact .inr e
       ·exact .inl (hg1 t (hGl t e))
       ·exact .inl (hh1 t e)
end
end
end
section
section
open Go.RowKit
structure Yz (d d':Nv.D) (h h':Fq) (i:Nat) (a:Int):Prop where
 us:∀x,Ee h.s.U x=true→Ee h'.s.U x=true
 sm:∀x,Ee h.s.U x=true→Sm d.cache d'.cache x
 V:h'.V=h.V.set i a
 R:h'.R=h'.V
 E:h'.E=h.E+1
 e:{h' with s:=h.s,rg:=h.rg,hL:=h.hL,sL:=h.sL,M:=h.M,V:=h.V,R:=h.R,E:=h.E,k:=h.k}=h
 pA:h'.s.pA=h.s.pA
theorem Yz.pre{d d1 d2:Nv.D}{m n:Nat}{id:Int}{h h1 h2:Fq}{i:Nat}{a:Int}(x:Ext d d1 h h1)(o:Yz d1 d2 h1 h2 i a)(hO:F6 d m n id h)(hD:Dv d1 m):Yz d d2 h h2 i a:=by
 have e1:=x.e
 have eV:h1.V=h.V:=by have:=congrArg Fq.V e1;exact this
 have eE:h1.E=h.E:=by have:=congrArg Fq.E e1;exact this
 refine⟨fun x' hx=>o.us x' (x.us x' hx),fun x' hx y y1 y2=>?_,by rw[o.V,eV],o.R,by rw[o.E,eE],?_,o.pA.trans x.pA⟩
 ·have h3:=x.sm x' hx
  have h4:=h3.RX zC hO.dev.dv.U
  rw[o.sm x' (x.us x' hx) y y1 (by rw[h4];exact y2)]
  exact h3 y y1 y2
 ·have e2:=o.e
  rw[←e2]at e1
  have e3:=congrArg (fun z:Fq=>{z with V:=h.V,R:=h.R,E:=h.E,k:=h.k}) e1
  exact e3
theorem Yz.regs{d d2:Nv.D}{h h2:Fq}{i:Nat}{a:Int}(o:Yz d d2 h h2 i a)(r:List Int):Yz d d2 h {h2 with rg:=r} i a:=⟨o.us,o.sm,o.V,o.R,o.E,o.e,o.pA⟩
theorem Yz.pH{d d2:Nv.D}{h h2:Fq}{i:Nat}{a:Int}(o:Yz d d2 h h2 i a):h2.pH=h.pH:=by have:=congrArg Fq.pH o.e;exact this
theorem Nd.opd{d d':Nv.D}{h h':Fq}{m:Nat}{id:Int}{a l r k v:Int}{i:Nat}{b:Int}(hO:F6 d m 40 id h)(hD:Dv d' m)(X:Yz d d' h h' i b)(N:Nd h.s.U d.cache a l r k v):Nd h'.s.U d'.cache a l r k v:=by
 have s:=X.sm a N.us
 obtain⟨_,h1,h2,_⟩:=s.all hO hD
 have ho:RX d.cache a=5:=by unfold RX;rw[N.hp,N.hq];omega
 refine⟨X.us a N.us,h1.trans N.hp,h2.trans N.hq,?_,?_,?_,?_⟩
 ·rw[←N.l];unfold Ob.UL;rw[s _ Y Y]
 ·rw[←N.r];unfold Ob.UL;rw[s _ Y Y]
 ·rw[←N.k];exact s _ Y Y
 ·rw[←N.v];exact s _ Y Y
theorem Tr.At.opd{d d':Nv.D}{h h':Fq}{m:Nat}{id:Int}{i:Nat}{b:Int}(hO:F6 d m 40 id h)(hD:Dv d' m)(X:Yz d d' h h' i b):∀{t:Tr},t.At h.s.U d.cache→t.At h'.s.U d'.cache
 | .nil,_=>trivial
 | .node _ _ _ _ _,ht=>⟨ht.1.opd hO hD X,ht.2.1,Tr.At.opd hO hD X ht.2.2.1,Tr.At.opd hO hD X ht.2.2.2⟩
theorem Rest.reg{d:Nv.D}{h:Fq}{m:Nat}{id:Int}{G:Int→Prop}{A:Nat}(R:Rest d m id h G A)(i:Nat){a:Int}(ha:0≤a∧a<131072):Rest d m id {h with rg:=h.rg.set i a} G A:=⟨R.ok.reg i ha,R.gc,R.cl,R.cp,R.mu⟩
theorem Rest.take{d:Nv.D}{h:Fq}{m:Nat}{id:Int}{G:Int→Prop}{A:Nat}(R:Rest d m id h G A)(i:Nat){a:Int}(ha:0≤a∧a<131072){M':KF}{zs:List Int}(hS:Tz (512*40) 3 h.s.U h.M M' zs):Rest d m id {h with rg:=h.rg.set i a,M:=M'} G A:=
 ⟨(R.ok.reg i ha).mkM hS.g,MZ.shd (h:={h with rg:=h.rg.set i a}) R.gc hS,R.cl,R.cp,R.mu⟩
theorem Rest.root{d:Nv.D}{h:Fq}{m:Nat}{id:Int}{G:Int→Prop}{A:Nat}(R:Rest d m id h G A){NC:List Bool}{M':KF}{zs:List Int}(h1:Gn h.sB h.sA h.sC NC)(hS:Tz (512*40) 3 h.s.U h.M M' zs)(i:Nat){v:Int}(hv:0≤v∧v<131072):Rest d m id {h with V:=h.V.set i v,sL:=NC,M:=M'} G A:=by
 obtain⟨a,b⟩:=arJ R.ok h1 hS i hv R.gc
 exact⟨a,b,R.cl,R.cp,R.mu⟩
theorem Rest.commit{d d':Nv.D}{h:Fq}{m:Nat}{id:Int}{G:Int→Prop}{A:Nat}(R:Rest d m id h G A)(hE:h.E≤999){l':List Bool}(hl:l'.length=h.hL.length)(e:Nv.cm d m h.E h.k (J3 (h.E+1) h.V)=(d',0)):Rest d' m id {h with E:=h.E+1,R:=h.V,k:=1-h.k,hL:=l'} G A∧∀x,Ee h.s.U x=true→Sm d.cache d'.cache x:=by
 obtain⟨a,b,c,f⟩:=amW R.ok hE hl e R.gc
 exact⟨⟨a,b,fun j=>f j (R.cl j),R.cp,R.mu⟩,fun x hx y y1 _=>c y (by have:=R.ok.bd hx;omega)⟩
section
variable{g:Geo}{d:Nv.D}{m:Nat}{id:Int}{h:Fq}{pT:Nat}{nm:Int}{w:World}{G:Int→Prop}{A:Nat}
theorem afq(hE:Dj [MV pT h.pH 5,grp (h.L g d)] w)(R:Rest d m id h G A)(hg:Q5 g m)(hE9:h.E≤999){x y u0 v0:Int}(hrg:h.rg=Pj x y u0 v0)(a:Int)(ha:a=0∨Ee h.s.U a=true):
 Calls prog 80 [ptr pT,.int .i64 a].toArray w fun e w'=>∃(d':Nv.D) (h':Fq),Rest d' m id h' G A∧Yz d d' h h' 5 a∧h'.rg=Pj x y a v0∧e= .returned (.int .i64 0)∧Heap w (ids [MV pT h.pH 5,grp (h.L g d)]) [MV pT h.pH 5,grp (h'.L g d')] w':=by
 have H:=Heap.start hE
 have hDr:=fun{W:World} hE=>abE (g:=g) (d:=d) (h:=h) (w:=W) hE R.ok.r32 2 0 Y Y
 have hTk:=fun(hu:Ee h.s.U a=true) {W:World} hE=>akB (g:=g) (d:=d) (h:={h with rg:=h.rg.set (8*2+0) 0}) (w:=W) hE (R.reg 16 (a:=0) Y).ok 2 0 Y Y a hu
 generalize ids [MV pT h.pH 5,grp (h.L g d)]=I at*
 refine BO 43 func80 O (oM ?_)
 refine A8 ?_
 refine Gl (fun f W=>f 0=ptr pT∧f 1= .int .i64 a∧f 5= .int .i64 0∧Heap w I [MV pT h.pH 5,grp (Fq.L g d {h with rg:=h.rg.set (8*2+0) 0})] W) ?_ ?_
 ·refine JQ (A:=[_]) mixed H [0] O ?_;replace H:=H.drew
  refine aO ?_
  refine BD 4 O (BL H O (Vu _) (Vh O) fun W1 H=>vK ?_)
  rintro e W1 ⟨rfl,H'⟩
  refine⟨_,rfl,?_⟩
  have H:=H.CX 1 rfl H';clear H';simp only[Bv]at H
  refine nU ?_
  exact⟨rfl,rfl,rfl,H⟩
 clear H
 rintro f W ⟨f0,f1,f5,H⟩
 obtain⟨f,rfl⟩:=KI f0 f1 f5
 clear f0 f1 f5
 by_cases h0:a=0
 ·have R1:=R.reg 16 (a:=0) Y
  obtain⟨h1,e1⟩:∃X:Fq,{h with rg:=h.rg.set (8*2+0) 0}=X:=⟨_,rfl⟩
  replace R1:Rest d m id {h with rg:=h.rg.set (8*2+0) 0} G A:=R1
  have X1:Ext d d h {h with rg:=h.rg.set (8*2+0) 0}:=⟨fun _ h=>h,fun _ _ _ _ _=>rfl,rfl,rfl⟩
  have hrg1:({h with rg:=h.rg.set (8*2+0) 0}:Fq).rg=Pj x y a v0:=by rw[h0];show h.rg.set 16 0=_;rw[hrg];rfl
  have YP:({h with rg:=h.rg.set (8*2+0) 0}:Fq).pH=h.pH:=rfl
  have hE1:({h with rg:=h.rg.set (8*2+0) 0}:Fq).E=h.E:=rfl
  rw[e1]at H R1 X1 hrg1 YP hE1
  clear e1
  refine AX (gI ?_)
  refine gI ?_
  refine A8 (A8 ?_)
  have akq:0≤a∧a<131072:=by rcases ha with e|e;omega;have:=R.ok.bd e;omega
  have hSr:=fun{W:World} hE=>VF (g:=g) (d:=d) (h:=h1) (w:=W) hE R1.ok 2 0 Y Y 5 Y a zH akq
  rw[←YP]at H⊢
  refine Gl (fun f W=>∃(NC:List Bool) (M':KF) (zs:List Int),Gn h1.sB h1.sA h1.sC NC∧Tz (512*40) 3 h1.s.U h1.M M' zs∧f 0=ptr pT∧f 6= .int .i64 0∧Heap w I [MV pT h1.pH 5,grp (Fq.L g d {h1 with V:=h1.V.set 5 a,sL:=NC,M:=M'})] W) ?_ ?_
  ·refine JQ (A:=[_]) mixed H [0] O ?_;replace H:=H.drew
   refine aO ?_
   refine gB ?_
   refine CZ 6 O O O (fun _ hS=>Cm O aeL) (H.BQ [0] O O) (mG ?_)
   refine BL H O (Vu _) (Vh O) fun W1 H=>oD ?_
   rintro e W1 ⟨NC,M',zs,q1,q2,rfl,H'⟩
   refine⟨_,rfl,?_⟩
   have H:=H.CX 1 rfl H';clear H';simp only[Bv]at H
   refine dh ?_
   refine dP ?_
   exact⟨NC,M',zs,q1,q2,rfl,rfl,H⟩
  clear H
  rintro f W ⟨NC,M',zs,q1,q2,f0,f6,H⟩
  obtain⟨f,rfl⟩:=LZ f0 f6
  clear f0 f6
  have R2:=R1.root q1 q2 5 (v:=a) akq
  have hCm:=fun{W:World} hE=>Yi (g:=g) (d:=d) (h:={h1 with V:=h1.V.set 5 a,sL:=NC,M:=M'}) (w:=W) hE R2.ok hg zM
  replace hCm:∀{W:World} (hE:Dj (Fq.L g d {h1 with V:=h1.V.set 5 a,sL:=NC,M:=M'}) W),Calls prog 42 [ptr h1.pH].toArray W _:=hCm
  refine AX (kK ?_)
  refine dL ?_
  refine BI O KY (qo ?_)
  rintro e W1 ⟨d2,l2,hcm,hl2,rfl,H'⟩
  refine⟨_,rfl,?_⟩
  have H:=H.CX 1 rfl H';clear H';simp only[Bv]at H
  refine eu ?_
  obtain⟨R3,sm3⟩:=R2.commit zM hl2 hcm
  exact⟨d2,_,R3,Yz.pre X1 ⟨fun _ h=>h,sm3,rfl,rfl,rfl,rfl,rfl⟩ R.ok R.ok.dev.dv,hrg1,rfl,H⟩
 ·have hu:=ha.resolve_left h0
  have hbd:=R.ok.bd hu
  refine AX (iQ ?_)
  refine AV (Jr O O Y) (AO (EF O ?_))
  refine Gl (fun f W=>∃(M1:KF) (zs:List Int),Tz (512*40) 3 h.s.U h.M M1 zs∧f 0=ptr pT∧f 5= .int .i64 0∧Heap w I [MV pT h.pH 5,grp (Fq.L g d {h with rg:=(h.rg.set (8*2+0) 0).set (8*2+0) a,M:=M1})] W) ?_ ?_
  ·refine JQ (A:=[_]) mixed H [0] O ?_;replace H:=H.drew
   refine aO ?_
   refine lu ?_
   refine BL H O (Vu _) (Vh O) fun W1 H=>dh ?_
   refine BD 6 O (s_call O ((hTk hu) (H.Bl 1 O)) (apX O) ?_)
   rintro e W1 ⟨M1,zs,hS,rfl,H'⟩
   refine⟨_,rfl,?_⟩
   have H:=H.CX 1 rfl H';clear H';simp only[Bv]at H
   refine iT ?_
   exact⟨M1,zs,hS,rfl,rfl,H⟩
  clear H
  rintro f W ⟨M1,zs,hS,f0,f5,H⟩
  obtain⟨f,rfl⟩:=LZ f0 f5
  clear f0 f5
  have R1:=(R.reg 16 (a:=0) Y).take 16 (a:=a) Y hS
  obtain⟨h1,e1⟩:∃X:Fq,{h with rg:=(h.rg.set (8*2+0) 0).set (8*2+0) a,M:=M1}=X:=⟨_,rfl⟩
  replace R1:Rest d m id {h with rg:=(h.rg.set (8*2+0) 0).set (8*2+0) a,M:=M1} G A:=R1
  have X1:Ext d d h {h with rg:=(h.rg.set (8*2+0) 0).set (8*2+0) a,M:=M1}:=⟨fun _ h=>h,fun _ _ _ _ _=>rfl,rfl,rfl⟩
  have hrg1:({h with rg:=(h.rg.set (8*2+0) 0).set (8*2+0) a,M:=M1}:Fq).rg=Pj x y a v0:=by show(h.rg.set 16 0).set 16 a=_;rw[hrg];rfl
  have YP:({h with rg:=(h.rg.set (8*2+0) 0).set (8*2+0) a,M:=M1}:Fq).pH=h.pH:=rfl
  have hE1:({h with rg:=(h.rg.set (8*2+0) 0).set (8*2+0) a,M:=M1}:Fq).E=h.E:=rfl
  rw[e1]at H R1 X1 hrg1 YP hE1
  clear e1
  refine AX (gI ?_)
  refine A8 (A8 ?_)
  have akq:0≤a∧a<131072:=by rcases ha with e|e;omega;have:=R.ok.bd e;omega
  have hSr:=fun{W:World} hE=>VF (g:=g) (d:=d) (h:=h1) (w:=W) hE R1.ok 2 0 Y Y 5 Y a zH akq
  rw[←YP]at H⊢
  refine Gl (fun f W=>∃(NC:List Bool) (M':KF) (zs:List Int),Gn h1.sB h1.sA h1.sC NC∧Tz (512*40) 3 h1.s.U h1.M M' zs∧f 0=ptr pT∧f 6= .int .i64 0∧Heap w I [MV pT h1.pH 5,grp (Fq.L g d {h1 with V:=h1.V.set 5 a,sL:=NC,M:=M'})] W) ?_ ?_
  ·refine JQ (A:=[_]) mixed H [0] O ?_;replace H:=H.drew
   refine aO ?_
   refine gB ?_
   refine CZ 6 O O O (fun _ hS=>Cm O aeL) (H.BQ [0] O O) (mG ?_)
   refine BL H O (Vu _) (Vh O) fun W1 H=>oD ?_
   rintro e W1 ⟨NC,M',zs,q1,q2,rfl,H'⟩
   refine⟨_,rfl,?_⟩
   have H:=H.CX 1 rfl H';clear H';simp only[Bv]at H
   refine dh ?_
   refine dP ?_
   exact⟨NC,M',zs,q1,q2,rfl,rfl,H⟩
  clear H
  rintro f W ⟨NC,M',zs,q1,q2,f0,f6,H⟩
  obtain⟨f,rfl⟩:=LZ f0 f6
  clear f0 f6
  have R2:=R1.root q1 q2 5 (v:=a) akq
  have hCm:=fun{W:World} hE=>Yi (g:=g) (d:=d) (h:={h1 with V:=h1.V.set 5 a,sL:=NC,M:=M'}) (w:=W) hE R2.ok hg zM
  replace hCm:∀{W:World} (hE:Dj (Fq.L g d {h1 with V:=h1.V.set 5 a,sL:=NC,M:=M'}) W),Calls prog 42 [ptr h1.pH].toArray W _:=hCm
  refine AX (kK ?_)
  refine dL ?_
  refine BI O KY (qo ?_)
  rintro e W1 ⟨d2,l2,hcm,hl2,rfl,H'⟩
  refine⟨_,rfl,?_⟩
  have H:=H.CX 1 rfl H';clear H';simp only[Bv]at H
  refine eu ?_
  obtain⟨R3,sm3⟩:=R2.commit zM hl2 hcm
  exact⟨d2,_,R3,Yz.pre X1 ⟨fun _ h=>h,sm3,rfl,rfl,rfl,rfl,rfl⟩ R.ok R.ok.dev.dv,hrg1,rfl,H⟩
theorem ao0(hE:Dj [MV pT h.pH nm,grp (h.L g d)] w)(R:Rest d m id h G A){x y u0 v0:Int}(hrg:h.rg=Pj x y u0 v0):
 CallsD prog 77 [ptr pT].toArray .returning w fun e u' w'=>u'= .returning∧((∃v,e= .returned v)∧Heap w (ids [MV pT h.pH nm,grp (h.L g d)]) [MV pT h.pH nm,grp (Fq.L g d {h with rg:=Pj x y 0 0})] w'):=by
 have H:=Heap.start hE
 have hDr:=fun{W:World} hE=>abE (g:=g) (d:=d) (h:=h) (w:=W) hE R.ok.r32 2 0 Y Y
 have hD2:=fun{W:World} hE=>abE (g:=g) (d:=d) (h:={h with rg:=h.rg.set (8*2+0) 0}) (w:=W) hE (R.reg 16 (a:=0) Y).ok.r32 2 1 Y Y
 have hend:(h.rg.set (8*2+0) 0).set (8*2+1) 0=Pj x y 0 0:=by rw[hrg];rfl
 rw[←hend]
 generalize ids [MV pT h.pH nm,grp (h.L g d)]=I at*
 refine aqr (N:=14) func77 O O O (A8 ?_)
 refine Gl (fun f W=>f 0=ptr pT∧Heap w I [MV pT h.pH nm,grp (Fq.L g d {h with rg:=h.rg.set (8*2+0) 0})] W) ?_ ?_
 ·refine JQ (A:=[_]) mixed H [0] O ?_;replace H:=H.drew
  refine aO ?_
  refine BD 4 O (BL H O (Vu _) (Vh O) fun W1 H=>vK ?_)
  rintro e W1 ⟨rfl,H'⟩
  refine⟨_,rfl,?_⟩
  have H:=H.CX 1 rfl H';clear H';simp only[Bv]at H
  refine dh ?_
  refine CU (Dp ?_)
  exact⟨rfl,H⟩
 clear H
 rintro f W ⟨f0,H⟩
 obtain⟨f,rfl⟩:=aci f0
 clear f0
 refine AX ?_
 refine JQ (A:=[_]) mixed H [0] O ?_;replace H:=H.drew
 refine uN ?_
 refine EC 2 O O O (fun _ hS=>Cm O KY) (H.BQ [0] O O) (EC 3 O O O (fun _ hS=>DR hS 0 O O O KO) (H.BQ [0] O O) (BD 4 O (BL H O (adA _) (aln O) fun W1 H=>dh ?_)))
 refine BD 5 O (s_call O (hD2 (H.Bl 1 O)) (am' O) ?_)
 rintro e W1 ⟨rfl,H'⟩
 refine⟨_,rfl,?_⟩
 have H:=H.CX 1 rfl H';clear H';simp only[Bv]at H
 refine dh ?_
 refine CU (fin0 O ?_)
 exact⟨⟨_,rfl⟩,H⟩
end
end
end
section
section
open Go.RowKit
section
variable{g:Geo}{d:Nv.D}{m:Nat}{id:Int}{h:Fq}{pT:Nat}{nm:Int}{w:World}{G:Int→Prop}{A:Nat}
theorem abj{pH:Nat}(hp:h.pH=pH)(hE:Dj [MV pT pH nm,grp (h.L g d)] w)(R:Rest d m id h G A){x y u0 v0:Int}(hrg:h.rg=Pj x y u0 v0):
 CallsD prog 77 [ptr pT].toArray .returning w fun e u' w'=>u'= .returning∧((∃v,e= .returned v)∧Heap w (ids [MV pT pH nm,grp (h.L g d)]) [MV pT pH nm,grp (Fq.L g d {h with rg:=Pj x y 0 0})] w'):=by
 subst hp
 exact ao0 hE R hrg
theorem Rest.rg0(R:Rest d m id h G A){x y u0 v0:Int}(hrg:h.rg=Pj x y u0 v0):Rest d m id {h with rg:=Pj x y 0 0} G A:=by
 have h1:=(R.reg 16 (a:=0) Y).reg 17 (a:=0) Y
 have e:(h.rg.set 16 0).set 17 0=Pj x y 0 0:=by rw[hrg];rfl
 rw[←e]
 exact h1
theorem asA(hE:Dj [MV pT h.pH 5,grp (h.L g d)] w)(R:Rest d m id h G A)(hg:Q5 g m){key val:Int}(hk:Ui key)(hv:Ui val)(T:Tr)(hT:T.At h.s.U d.cache)(hG:∀x,T.has x→G x)(hA:A+T.pl.size≤1800)(hE9:h.E≤999)(hV:h.V.getD 5 0=T.IU){x y u0 v0:Int}(hrg:h.rg=Pj x y u0 v0):
 Calls prog 20 [ptr pT,.int .u64 key,.int .u64 val].toArray w fun e w'=>∃(d':Nv.D) (h':Fq) (T':Tr) (G':Int→Prop),Rest d' m id h' G' (A+T.pl.size+1)∧Yz d d' h h' 5 T'.IU∧T'.At h'.s.U d'.cache∧T'.pl=T.pl.ins key val∧(∀t,G t→G' t)∧(∀t,T'.has t→G' t)∧h'.rg=Pj x y 0 0∧e= .returned (.int .i64 0)∧Heap w (ids [MV pT h.pH 5,grp (h.L g d)]) [MV pT h.pH 5,grp (h'.L g d')] w':=by
 have H:=Heap.start hE
 have hRo:=fun{W:World} hE=>aeO (g:=g) (d:=d) (h:=h) (pT:=pT) (w:=W) hE R.ok hV
 generalize ids [MV pT h.pH 5,grp (h.L g d)]=I at*
 have hP:=fun{W:World} hE=>auX (g:=g) (m:=m) (id:=id) (pT:=pT) (nm:=5) hg hk hv T (d:=d) (h:=h) (w:=W) (A:=A) hE R hT hG hA hrg
 refine acO (N:=25) func20 O O O (oM ?_)
 refine mQ ?_
 refine AP (Bg O (Bg O (BL H O (hRo H.ents) (aoF O) fun W1 H=>AQ O (AQ O (s_call O (hP H.ents) (aqC O) ?_)))))
 rintro e W1 ⟨d1,h1,T1,G1,u1,v1,R1,X1,hT1,hp1,hg1,hh1,hn1,hrg1,rfl,H'⟩
 refine⟨_,rfl,?_⟩
 have H:=H.whole H';clear H'
 refine pG ?_
 refine A8 ?_
 have Wn:h1.pH=h.pH:=by have:=congrArg Fq.pH X1.e;exact this
 have hEE:h1.E=h.E:=by have:=congrArg Fq.E X1.e;exact this
 rw[←Wn]at H⊢
 have hCm:=fun{W:World} hE=>afq (g:=g) (d:=d1) (h:=h1) (pT:=pT) (w:=W) hE R1 hg Y hrg1 T1.IU (Tr.Ou hT1)
 refine DF (Bg O (AQ O (s_call O (hCm H.ents) (avQ O) ?_)))
 rintro e W1 ⟨d2,h2,R2,O2,hrg2,rfl,H'⟩
 refine⟨_,rfl,?_⟩
 have H:=H.whole H';clear H'
 refine xA ?_
 refine ahX (v:= .int _ _) func77 Aw Aw O O (abj O2.pH H.ents R2 hrg2) ?_
 rintro e W1 ⟨⟨v9,rfl⟩,H'⟩
 refine⟨⟨_,rfl⟩,?_⟩
 have H:=H.whole H';clear H'
 exact⟨d2,_,T1,G1,R2.rg0 hrg2,(Yz.pre X1 O2 R.ok R1.ok.dev.dv).regs _,hT1.opd R1.ok R2.ok.dev.dv O2,hp1,hg1,hh1,rfl,rfl,H⟩
theorem aiZ(hE:Dj [MV pT h.pH 5,grp (h.L g d)] w)(R:Rest d m id h G A){key:Int}(T:Tr)(hT:T.At h.s.U d.cache)(hV:h.V.getD 5 0=T.IU)(hget:T.pl.get key=none){x y u0 v0:Int}(hrg:h.rg=Pj x y u0 v0):
 Calls prog 21 [ptr pT,.int .u64 key].toArray w fun e w'=>e= .returned (.int .i64 42)∧Heap w (ids [MV pT h.pH 5,grp (h.L g d)]) [MV pT h.pH 5,grp (Fq.L g d {h with rg:=Pj x y 0 0})] w':=by
 have H:=Heap.start hE
 have hGe:=fun{W:World} hE=>akl (g:=g) (d:=d) (h:=h) (pT:=pT) (w:=W) hE R.ok T hT hV key
 rw[hget]at hGe
 generalize ids [MV pT h.pH 5,grp (h.L g d)]=I at*
 refine acO (N:=32) func21 O O O (oM ?_)
 refine mQ ?_
 refine A8 (eH ?_)
 refine BL H O (hGe H.ents) (aob O) fun W1 H=>aF ?_
 refine AO (AP (BX O (AV (Ib O) (AO (EF O (oM ?_))))))
 refine BM (Dx (ahX (v:= .int _ _) func77 Aw Aw O O (abj O H.ents R hrg) ?_))
 rintro e W1 ⟨⟨v9,rfl⟩,H'⟩
 refine⟨⟨_,rfl⟩,?_⟩
 have H:=H.whole H';clear H'
 exact⟨rfl,H⟩
theorem amm(hE:Dj [MV pT h.pH 5,grp (h.L g d)] w)(R:Rest d m id h G A)(hg:Q5 g m){key v:Int}(T:Tr)(hT:T.At h.s.U d.cache)(hG:∀x,T.has x→G x)(hA:A+T.pl.size≤1800)(hE9:h.E≤999)(hV:h.V.getD 5 0=T.IU)(hget:T.pl.get key=some v){x y u0 v0:Int}(hrg:h.rg=Pj x y u0 v0):
 Calls prog 21 [ptr pT,.int .u64 key].toArray w fun e w'=>∃(d':Nv.D) (h':Fq) (T':Tr) (G':Int→Prop),Rest d' m id h' G' (A+T.pl.size+1)∧Yz d d' h h' 5 T'.IU∧T'.At h'.s.U d'.cache∧T'.pl=T.pl.del key∧(∀t,G t→G' t)∧(∀t,T'.has t→G' t)∧h'.rg=Pj x y 0 0∧e= .returned (.int .i64 0)∧Heap w (ids [MV pT h.pH 5,grp (h.L g d)]) [MV pT h.pH 5,grp (h'.L g d')] w':=by
 have H:=Heap.start hE
 have hRo:=fun{W:World} hE=>aeO (g:=g) (d:=d) (h:=h) (pT:=pT) (w:=W) hE R.ok hV
 have hGe:=fun{W:World} hE=>akl (g:=g) (d:=d) (h:=h) (pT:=pT) (w:=W) hE R.ok T hT hV key
 rw[hget]at hGe
 generalize ids [MV pT h.pH 5,grp (h.L g d)]=I at*
 have hP:=fun{W:World} hE=>auc (g:=g) (m:=m) (id:=id) (pT:=pT) (nm:=5) hg T (key:=key) (d:=d) (h:=h) (w:=W) (A:=A) hE R hT hG hA hrg
 refine acO (N:=32) func21 O O O (oM ?_)
 refine mQ ?_
 refine A8 (eH ?_)
 refine BL H O (hGe H.ents) (aob O) fun W1 H=>aF ?_
 refine AO (AP (BX O (eU ?_)))
 refine AP (Bg O (Bg O (BL H O (hRo H.ents) (aoF O) fun W1 H=>AQ O (s_call O (hP H.ents) (anY O) ?_))))
 rintro e W1 ⟨d1,h1,T1,G1,u1,v1,R1,X1,hT1,hp1,hg1,hh1,hrg1,rfl,H'⟩
 refine⟨_,rfl,?_⟩
 have H:=H.whole H';clear H'
 refine pG ?_
 refine A8 ?_
 have Wn:h1.pH=h.pH:=by have:=congrArg Fq.pH X1.e;exact this
 have hEE:h1.E=h.E:=by have:=congrArg Fq.E X1.e;exact this
 rw[←Wn]at H⊢
 have hCm:=fun{W:World} hE=>afq (g:=g) (d:=d1) (h:=h1) (pT:=pT) (w:=W) hE R1 hg Y hrg1 T1.IU (Tr.Ou hT1)
 refine DF (Bg O (AQ O (s_call O (hCm H.ents) (avQ O) ?_)))
 rintro e W1 ⟨d2,h2,R2,O2,hrg2,rfl,H'⟩
 refine⟨_,rfl,?_⟩
 have H:=H.whole H';clear H'
 refine xA ?_
 refine ahX (v:= .int _ _) func77 Aw Aw O O (abj O2.pH H.ents R2 hrg2) ?_
 rintro e W1 ⟨⟨v9,rfl⟩,H'⟩
 refine⟨⟨_,rfl⟩,?_⟩
 have H:=H.whole H';clear H'
 exact⟨d2,_,T1,G1,(R2.rg0 hrg2).mono Y,(Yz.pre X1 O2 R.ok R1.ok.dev.dv).regs _,hT1.opd R1.ok R2.ok.dev.dv O2,hp1,hg1,hh1,rfl,rfl,H⟩
end
end
end
section
section
open Go.RowKit
theorem U7(w:World):Calls prog 71 [].toArray w fun e w'=>e= .returned (.agg [.int .i64 (1:Nat),.int .i64 (0:Nat)].toArray)∧Only [] w w':=by
 have H:=Heap.nil w
 refine BO 2 func71 O (AP (Ei H O aiG fun p0 _ H=>AO (AP (AV (FI (alG _) O) (En H 0 O O O O O O O NW ?_)))))
 clear H;refine axS fun _ H=>?_
 refine AO (BM (abJ O (JB H 0 O O O OT NW) ?_))
 exact⟨rfl,H.only⟩
theorem abh(w:World):Calls prog 70 [].toArray w fun e w'=>e= .returned (.agg [.int .i64 (1:Nat),.int .i64 (1:Nat)].toArray)∧Only [] w w':=by
 have H:=Heap.nil w
 refine BO 2 func70 O (AP (Ei H O aiG fun p0 _ H=>AO (AP (AV (FI (afp _ _) O) (En H 0 O O O O O O O NW ?_)))))
 clear H;refine axS fun _ H=>?_
 refine AO (BM (abJ O (JB H 0 O O O OT NW) ?_))
 exact⟨rfl,H.only⟩
def Qu(pP pH:Nat):FU:=blk pP [ptr pH,.int .i64 2] 143
structure Pn (U:List Bool) (c:List Int) (a nx v:Int):Prop where
 us:Ee U a=true
 hp:Ob.hp c a=1
 hq:Ob.hq c a=1
 l:Ob.UL c (a+1)=nx
 v:Nv.get c (a+2)=v
theorem Pn.sm{d d':Nv.D}{h:Fq}{m:Nat}{id:Int}{U':List Bool}{a nx v:Int}(hO:F6 d m 40 id h)(hD:Dv d' m)(s:Sm d.cache d'.cache a)(hu:Ee U' a=true)(N:Pn h.s.U d.cache a nx v):Pn U' d'.cache a nx v:=by
 obtain⟨_,h1,h2,_⟩:=s.all hO hD
 have ho:RX d.cache a=3:=by unfold RX;rw[N.hp,N.hq];omega
 refine⟨hu,h1.trans N.hp,h2.trans N.hq,?_,?_⟩
 ·rw[←N.l];unfold Ob.UL;rw[s _ Y Y]
 ·rw[←N.v];exact s _ Y Y
namespace Pl
def IU:List (Int×Int)→Int
 | []=>0
 |p::_=>p.1
def At(U:List Bool)(c:List Int):List (Int×Int)→Prop
 | []=>True
 |p::r=>Pn U c p.1 (IU r) p.2∧Ui p.2∧At U c r
theorem At.IU{U:List Bool}{c:List Int}:∀{l:List (Int×Int)},At U c l→Pl.IU l=0∨Ee U (Pl.IU l)=true
 | [],_=> .inl rfl
 |_::_,h=> .inr h.1.us
theorem At.sm{d d':Nv.D}{h:Fq}{m:Nat}{id:Int}{U':List Bool}(hO:F6 d m 40 id h)(hD:Dv d' m)(s:∀x,Ee h.s.U x=true→Sm d.cache d'.cache x)(hu:∀x,Ee h.s.U x=true→Ee U' x=true):∀{l:List (Int×Int)},At h.s.U d.cache l→At U' d'.cache l
 | [],_=>trivial
 |_::_,h=>⟨h.1.sm hO hD (s _ h.1.us) (hu _ h.1.us),h.2.1,At.sm hO hD s hu h.2.2⟩
end Pl
section
variable{g:Geo}{d:Nv.D}{m:Nat}{id:Int}{h:Fq}{pP:Nat}{w:World}{G:Int→Prop}{A:Nat}
theorem aeH{pH:Nat}(hp:h.pH=pH)(hE:Dj [Qu pP pH,grp (h.L g d)] w)(R:Rest d m id h G A){x y u0 v0:Int}(hrg:h.rg=Pj x y u0 v0):
 CallsD prog 68 [ptr pP].toArray .returning w fun e u' w'=>u'= .returning∧((∃v,e= .returned v)∧Heap w (ids [Qu pP pH,grp (h.L g d)]) [Qu pP pH,grp (Fq.L g d {h with rg:=Pj 0 0 u0 v0})] w'):=by
 subst hp
 have H:=Heap.start hE
 have hDr:=fun{W:World} hE=>abE (g:=g) (d:=d) (h:=h) (w:=W) hE R.ok.r32 1 0 Y Y
 have hD2:=fun{W:World} hE=>abE (g:=g) (d:=d) (h:={h with rg:=h.rg.set (8*1+0) 0}) (w:=W) hE (R.reg 8 (a:=0) Y).ok.r32 1 1 Y Y
 have hend:(h.rg.set (8*1+0) 0).set (8*1+1) 0=Pj 0 0 u0 v0:=by rw[hrg];rfl
 rw[←hend]
 generalize ids [Qu pP h.pH,grp (h.L g d)]=I at*
 refine aqr (N:=14) func68 O O O (A8 ?_)
 refine Gl (fun f W=>f 0=ptr pP∧Heap w I [Qu pP h.pH,grp (Fq.L g d {h with rg:=h.rg.set (8*1+0) 0})] W) ?_ ?_
 ·refine JQ (A:=[_]) mixed H [0] O ?_;replace H:=H.drew
  refine au ?_
  refine BD 4 O (BL H O (U7 _) (abC O) fun W1 H=>vK ?_)
  rintro e W1 ⟨rfl,H'⟩
  refine⟨_,rfl,?_⟩
  have H:=H.CX 1 rfl H';clear H';simp only[Bv]at H
  refine dh ?_
  refine CU (Dp ?_)
  exact⟨rfl,H⟩
 clear H
 rintro f W ⟨f0,H⟩
 obtain⟨f,rfl⟩:=aci f0
 clear f0
 refine AX ?_
 refine JQ (A:=[_]) mixed H [0] O ?_;replace H:=H.drew
 refine uN ?_
 refine EC 2 O O O (fun _ hS=>Cm O IB) (H.BQ [0] O O) (EC 3 O O O (fun _ hS=>DR hS 0 O O O KO) (H.BQ [0] O O) (BD 4 O (BL H O (abh _) (akw O) fun W1 H=>dh ?_)))
 refine BD 5 O (s_call O (hD2 (H.Bl 1 O)) (am' O) ?_)
 rintro e W1 ⟨rfl,H'⟩
 refine⟨_,rfl,?_⟩
 have H:=H.CX 1 rfl H';clear H';simp only[Bv]at H
 refine dh ?_
 refine CU (fin0 O ?_)
 exact⟨⟨_,rfl⟩,H⟩
theorem Rest.rg1(R:Rest d m id h G A){x y u0 v0:Int}(hrg:h.rg=Pj x y u0 v0):Rest d m id {h with rg:=Pj 0 0 u0 v0} G A:=by
 have h1:=(R.reg 8 (a:=0) Y).reg 9 (a:=0) Y
 have e:(h.rg.set 8 0).set 9 0=Pj 0 0 u0 v0:=by rw[hrg];rfl
 rw[←e]
 exact h1
end
end
end
section
section
open Go.RowKit
theorem asj(w:World)(pH:Nat):Calls prog 66 [ptr pH,.int .i64 2].toArray w fun e w'=>∃pP,e= .returned (.tuple #[ptr pP,.int .i64 (0:Nat)])∧Heap w [] [Qu pP pH] w':=by
 have H:=Heap.nil w
 refine BO 16 func66 O (AP (Fb O (ql ?_)))
 refine AV (FI (ajI _ _) O) (D9 H O O fun p15 _ H=>qZ ?_)
 exact⟨_,rfl,H⟩
theorem arx(w:World)(pH:Nat):Calls prog 67 [ptr pH,.int .i64 5].toArray w fun e w'=>∃pT,e= .returned (.tuple #[ptr pT,.int .i64 (0:Nat)])∧Heap w [] [MV pT pH 5] w':=by
 have H:=Heap.nil w
 refine BO 16 func67 O (AP (Fb O (ql ?_)))
 refine AV (FI (aj9 _ _) O) (D9 H O O fun p15 _ H=>qZ ?_)
 exact⟨_,rfl,H⟩
theorem acD(w:World)(pH:Nat):Calls prog 17 [ptr pH].toArray w fun e w'=>∃pP pT,e= .returned (.tuple #[ptr pP,ptr pT,.bool true])∧Heap w [] [MV pT pH 5,Qu pP pH] w':=by
 have H:=Heap.nil w
 refine BO 35 func17 O (AP (Fb O (Fb O (BH O (AO (AP (Bg O (s_call O (asj _ pH) (awy O) ?_))))))))
 rintro e W1 ⟨pP,rfl,H'⟩
 refine⟨_,rfl,?_⟩
 have H:=H.more H';clear H';simp only[Bv]at H
 refine fJ ?_
 refine AO (AP (Bg O (s_call O (arx _ pH) (avZ O) ?_)))
 rintro e W1 ⟨pT,rfl,H'⟩
 refine⟨_,rfl,?_⟩
 have H:=H.more H';clear H';simp only[Bv]at H
 refine fJ ?_
 refine AO (AP (Bg O (Bg O (AQ O (AV (D7 O O Y) (BX O (Bo 23 O (Gm O) (Bo 23 O (D7 O O Y) (EZ O O (BX O (Bo 27 O (Ls O) (Bo 27 O (Y1 O O underlying51) (EZ O O ?_)))))))))))))
 refine BX O (Bo 31 O (Ls O) (Bo 31 O (Y1 O O underlying52) (EZ O O (Fb O (Fb O (BH O (AO (BM (apR (v:= .pointer _) (v2:= .pointer _) (v3:= .bool _) O O O O ?_)))))))))
 exact⟨pP,pT,rfl,H⟩
end
end
end Go.Proofs.YtppilhpcmkekbaaGreat
