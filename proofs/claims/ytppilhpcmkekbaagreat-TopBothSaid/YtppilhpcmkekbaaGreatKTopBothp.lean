/- Parts of the proof. -/
import Derived.Test.YtppilhpcmkekbaaGreatKTopBotho
set_option linter.unusedSimpArgs false
set_option linter.unusedVariables false
set_option linter.unusedSectionVars false
set_option maxRecDepth 100000
set_option maxHeartbeats 16000000
namespace Go.Proofs.YtppilhpcmkekbaaGreat
open Go.Proofs.Tryz
section
section
theorem Hl.uniq{hs:List Ob.H3}{n k j:Nat}{a:Int}(h:Hl hs n k a)(h2:Hl hs n j a)(hk:k<32)(hj:j<32):k=j:=by
 obtain⟨b2,i,e1,e2,e3,e4,e5,e6⟩:=h
 obtain⟨b3,i3,f1,f2,f3,f4,f5,f6⟩:=h2
 have hb2:=FP (b:=(b2:Int)) (k:=(k:Int)) (i:=i) Y ⟨e4,e5⟩
 have hb3:=FP (b:=(b3:Int)) (k:=(j:Int)) (i:=i3) Y ⟨f4,f5⟩
 rw[←e6]at hb2
 rw[←f6]at hb3
 obtain rfl:b2=b3:=Y
 rw[e3]at f3
 injection f3 with f3
 injection f3 with _ f3
 injection f3 with f3 _
 omega
theorem ah8{U:List Bool}{x:Int}(hx:0≤x∧x<U.length)(a:Int):Ee (Bm.put U x false) a=if x=a then false else Ee U a:=Bm.V9 U x a false hx
theorem GK.freed{c:List Int}{s:IX}{N M:Nat}{k:Nat}(h:GK c s N fun _=>False){a:Int}(ha:Ee s.U a=true)(hk:k<32)(hc:Hl s.hs s.n k a){F':Nat→EP}{KP:Vf}(hF:PK s.M (xsOf F'))(hFr:ML F' KP M)(h1:(cls (xsOf F') k).Perm (cls (xsOf s.F) k++ [a]))(h2:∀j,j≠k→cls (xsOf F') j=cls (xsOf s.F) j):
 GK c {s with U:=Bm.put s.U a false,F:=F',FL:=KP} M fun _=>False:=by
 have hr:=NZ ha
 have hput:=ah8 hr
 refine⟨h.hl,h.n2,h.sm,h.hd,h.rn,h.su.put' _ _,by rw[Bm.Pv];exact h.ul,hF,hFr,h.cl,fun x hx=>?_,fun j hj x=>?_⟩
 ·replace hx:Ee (Bm.put s.U a false) x=true:=hx
  rw[hput]at hx
  split at hx
  ·cases hx
  ·exact h.us x hx
 ·show x∈cls (xsOf F') j↔Hl s.hs s.n j x∧Ee (Bm.put s.U a false) x=false∧¬False
  rw[hput]
  by_cases e:j=k
  ·subst e
   rw[h1.mem_iff,Ci,Bz,h.fm j hj]
   constructor
   ·rintro(⟨h3,h4,_⟩|rfl)
    ·exact⟨h3,by split;rfl;exact h4,fun h=>h⟩
    ·exact⟨hc,by rw[if_pos rfl],fun h=>h⟩
   ·rintro⟨h3,h4,_⟩
    by_cases e:a=x
    ·exact .inr e.symm
    ·rw[if_neg e]at h4;exact .inl ⟨h3,h4,fun h=>h⟩
  ·rw[h2 j e,h.fm j hj]
   constructor
   ·rintro⟨h3,h4,_⟩;exact⟨h3,by split;rfl;exact h4,fun h=>h⟩
   ·rintro⟨h3,h4,_⟩
    by_cases e2:a=x
    ·subst e2;exact absurd (h3.uniq hc hj hk) e
    ·rw[if_neg e2]at h4;exact⟨h3,h4,fun h=>h⟩
theorem Yr.set0{hs:List Ob.H3}(h:Yr hs)(b:Nat):Yr (hs.set b (0,0,0)):=fun x hx=>by
 rcases DY hx with h1|rfl
 ·exact h x h1
 ·exact .inl rfl
theorem alV{hs:List Ob.H3}{n b:Nat}(hb:b<hs.length)(h1:1≤b)(hn:b<n)(x:Int):QY (hs.set b (0,0,0)) n x↔QY hs n x∨((b:Int)≤x∧x<b+1):=by
 unfold QY
 constructor
 ·rintro⟨x1,x2,h,h3,h4⟩
  by_cases e:x=b
  ·exact .inr Y
  ·rw[Ez Y]at h3
   exact .inl ⟨x1,x2,h,h3,h4⟩
 ·rintro(⟨x1,x2,h,h3,h4⟩|h)
  ·by_cases e:x=b
   ·subst e;exact⟨x1,x2,(0,0,0),by rw[BJ,Gf hb],rfl⟩
   ·exact⟨x1,x2,h,by rw[Ez Y];exact h3,h4⟩
  ·obtain rfl:x=b:=Y
   exact⟨Y,Y,(0,0,0),by rw[BJ,Gf hb],rfl⟩
theorem Zb{hs:List Ob.H3}{n b j:Nat}(hj:j<32)(hb:b<hs.length)(a:Int):Hl (hs.set b (0,0,0)) n j a↔Hl hs n j a∧a/512≠b:=by
 constructor
 ·rintro⟨b2,i,h1,h2,h3,h4,h5,rfl⟩
  rw[FP Y ⟨h4,h5⟩]
  by_cases e:b2=b
  ·subst e
   rw[Gf hb]at h3
   injection h3 with h3
   injection h3 with h3 _
   cases h3
  ·rw[Ez Y]at h3
   exact⟨⟨b2,i,h1,h2,h3,h4,h5,rfl⟩,Y⟩
 ·rintro⟨⟨b2,i,h1,h2,h3,h4,h5,rfl⟩,hx⟩
  rw[FP Y ⟨h4,h5⟩]at hx
  exact⟨b2,i,h1,h2,by rw[Ez Y];exact h3,h4,h5,rfl⟩
theorem GK.released{c c':List Int}{s:IX}{N M b k:Nat}(h:GK c s N fun _=>False)(hb:1≤b∧b<s.n)(hk:k<32)(hh:s.hs[b]? =some (1,(k:Int),0))(hno:∀a:Int,a/512=b→Ee s.U a=false){S' E':IL}(hr:Rn.Ok S' E' s.n (QY (s.hs.set b (0,0,0)) s.n))
 (hl:c'.length=c.length) (hc:∀x,Nv.get c' x=if x=256+(b:Int)then Bh.enc 0 0 0 (256+(b:Int))else Nv.get c x) {F':Nat→EP} {KP:Vf} (hF:PK s.M (xsOf F')) (hFr:ML F' KP M) (h1:∀x,x∈cls (xsOf F') k↔x∈cls (xsOf s.F) k∧x/512≠b) (h2:∀j,j≠k→cls (xsOf F') j=cls (xsOf s.F) j):
 GK c' {s with hs:=s.hs.set b (0,0,0),S:=S',E:=E',F:=F',FL:=KP} M fun _=>False:=by
 have hbl:b<s.hs.length:=by rw[h.hl];exact hb.2
 have hn:=h.n2
 have hoff:∀j,j<32→j≠k→∀a,Hl s.hs s.n j a→a/512≠b:=fun j hj hne a hc=>by
  obtain⟨b2,i,e1,e2,e3,e4,e5,rfl⟩:=hc
  rw[FP Y ⟨e4,e5⟩]
  intro e
  obtain rfl:b2=b:=Y
  rw[hh]at e3
  injection e3 with e3
  injection e3 with _ e3
  injection e3 with e3 _
  omega
 refine⟨by show(s.hs.set b (0,0,0)).length=s.n;rw[Hz];exact h.hl,h.n2,h.sm.set0 b,⟨?_,fun b2 x q1 q2=>?_⟩,hr,h.su,h.ul,hF,hFr,by rw[hl];exact h.cl,fun a ha=>?_,fun j hj a=>?_⟩
 ·show(s.hs.set b (0,0,0))[0]? =_
  rw[Ez Y];exact h.hd.h0
 ·replace q2:(s.hs.set b (0,0,0))[b2]? =some x:=q2
  rw[hc]
  by_cases e:b2=b
  ·subst e
   rw[Gf hbl]at q2
   injection q2 with q2
   subst q2
   exact⟨Bh.EI _ _ _ (.inl ⟨rfl,rfl,rfl⟩),by rw[if_pos rfl]⟩
  ·rw[Ez (fun e2=>e e2.symm)]at q2
   rw[if_neg Y]
   exact h.hd.at_ b2 x q1 q2
 ·have hp:=h.us a ha
  show Ob.pl s.n c' (s.hs.set b (0,0,0)) a=true
  rw[Vl (h.sm.set0 b) (by simp[h.hl])]
  obtain⟨p1,p2,j,p3,p4,p5⟩:=(Vl h.sm h.hl a).1 hp
  have hbd:=p5.bd p3
  have hg:Nv.get c' a=Nv.get c a:=by rw[hc,if_neg Y]
  obtain⟨g1,g2,g3⟩:=Ph hl hg
  rw[g1,g2,g3]
  refine⟨p1,p2,j,p3,p4,(Zb p3 hbl a).2 ⟨p5,fun e=>?_⟩⟩
  replace ha:Ee s.U a=true:=ha
  rw[hno a e]at ha;cases ha
 ·show a∈cls (xsOf F') j↔Hl (s.hs.set b (0,0,0)) s.n j a∧Ee s.U a=false∧¬False
  rw[Zb hj hbl]
  by_cases e:j=k
  ·subst e
   rw[h1,h.fm j hj]
   constructor
   ·rintro⟨⟨h3,h4,h5⟩,h6⟩;exact⟨⟨h3,h6⟩,h4,h5⟩
   ·rintro⟨⟨h3,h6⟩,h4,h5⟩;exact⟨⟨h3,h4,h5⟩,h6⟩
  ·rw[h2 j e,h.fm j hj]
   constructor
   ·rintro⟨h3,h4,h5⟩;exact⟨⟨h3,hoff j hj e a h3⟩,h4,h5⟩
   ·rintro⟨⟨h3,_⟩,h4,h5⟩;exact⟨h3,h4,h5⟩
theorem GK.row{c:List Int}{s:IX}{N:Nat}{X:Int→Prop}(h:GK c s N X){i:Nat}(hi:i<160):(xsOf s.F i).length≤512*s.n:=by
 refine FC (arj (xsOf s.F)) (Tr.PU _ _ (h.fs.nd (i/5) Y) fun a ha=>?_)
 have h2:=((h.fm (i/5) Y a).1 ha).1.bd Y
 have:=Cl.Gt ((i/5:Nat):Int) Y Y
 omega
end
end
section
section
open Go.RowKit
section
variable{g:Geo}{d:Nv.D}{m n pM pT p c pX bS bE:Nat}{hs:List Ob.H3}{rs:List Value}{S E:IL}{w:World}
theorem ajs(hE:Dj (grp (Dy g d)::ZM g n pM pT p hs rs c pX bS bE S E) w)(hD:Dv d m)(hg:Q5 g m)(hm:m≤100000)(hnm:256+n≤8*m)(hl:hs.length=n)(hn:n≤1000)(hO:Rn.Ok S E n (QY hs n))(b:Nat)(hb:1≤b∧b<n)(k:Int)(hk:hs[b]? =some (1,k,0)):
 Calls prog 230 [ptr pM,.int .i64 b].toArray w fun e w'=>∃(d1 d2:Nv.D) (S' E':IL),ZB d d1 m (256+b) (Bh.enc 0 0 0 (256+(b:Int)))∧Per d1 d2 m (256+b) 1∧Rn.Ok S' E' n (QY (hs.set b (0,0,0)) n)∧e= .returned (.int .i64 0)∧
  Heap w (ids (grp (Dy g d)::ZM g n pM pT p hs rs c pX bS bE S E)) (grp (Dy g d2)::ZM g n pM pT p (hs.set b (0,0,0)) rs c pX bS bE S' E') w':=by
 have H:=Heap.start hE
 have hr:Bh.right 0 0 0=true:=Bh.EI _ _ _ (.inl ⟨rfl,rfl,rfl⟩)
 have hGt:=fun{W:World} hE=>ane (w:=W) (g:=g) (n:=n) (pT:=pT) (p:=p) (hs:=hs) (rs:=rs) (c:=c) hE hl hn b hb.1 _ hk
 have hnf:∀x:Int,(b:Int)≤x→x<b+1→¬QY hs n x:=fun x h1 h2=>by
  obtain rfl:x=b:=Y
  rintro⟨_,_,h,h3,h4⟩
  rw[BJ,hk]at h3
  injection h3 with h3
  subst h3;cases h4
 have hGv:=fun{W:World} hE=>ame (p:=pX) (bS:=bS) (bE:=bE) (S:=S) (E:=E) (lim:=n) (fb:=QY hs n) (w:=W) hE hO Y b 1 Y hnf
 unfold ZM at H⊢
 generalize ids _=I at*
 refine BO 56 func230 O (oM ?_)
 refine dL ?_
 refine BI O La (BG H 1 O O O PO (AQ O ?_))
 refine BL H O ((by have H2:Heap w I ([_,_]++ [_,_,_]) _:=H.order [2,3,0,1,4] O O;exact hGt H2.part)) (acX O) fun W1 H=>?_
 refine Ei H O Jf fun p5 _ H=>tH ?_
 clear H;refine axS fun _ H=>?_
 refine AO (oM ?_)
 refine A8 (AP (BI O KX (fV ?_)))
 refine AO (E8 (AP (iO ?_)))
 refine AO (EF O (Bj (CS (AX (jW ?_)))))
 refine BI O La (BG H 2 O O O PO (AQ O (AV (FI (ap0) O) (ado (enc:=(Value.int .i64)) (size:=3) (zs:=[0,0,0]) H O O O Y Aw underlying128 Jf ?_))))
 intro q6 _ H';clear H;have H:=H';clear H'
 refine s_call O ((by have H2:Heap w I ([_,_,_]++ [_,_,_,_]) _:=H.order [2,4,5,0,1,3,6] O O;exact aed (hs:=hs) (n:=n) H2.part hD hg hm hnm hl hn b hb (0,0,0) hr _ _ (Heap.Uf (A:=[_,_,_]) (hs:=[(0,0,0)]) H2))) (ah7 O) ?_
 rintro e W1 ⟨d1,d2,h1,h2,rfl,H'⟩
 refine⟨_,rfl,?_⟩
 have H2:Heap w I ([_,_,_]++ [_,_,_,_]) _:=H.order [2,4,5,0,1,3,6] rfl rfl;have H3:=H2.step H' (fun i hi=>hi);clear H H' H2;simp only[tbE,EL,Ey]at H3;have H:Heap w I [_,_,_,_,_] _:=Heap.BQ H3 [0,5,1,2,6] rfl rfl;clear H3
 refine vH ?_
 refine iQ ?_
 refine AV (Jy O O Y) (dK ?_)
 refine dL ?_
 refine BI O aij (BG H 1 O O O apm (AQ O (AQ O (s_call O (hGv (H.Bl 4 O)) (aph O) ?_))))
 rintro e W1 ⟨rfl,S',E',hO2,H'⟩
 refine⟨_,rfl,?_⟩
 have H:=H.CX 4 rfl H';clear H';simp only[Bv]at H
 refine eu ?_
 exact⟨d1,d2,S',E',h1,h2,hO2.congr fun x=>(alV Y hb.1 hb.2 x).symm,rfl,H⟩
end
section
variable{g:Geo}{d:Nv.D}{m:Nat}{s:IX}{N:Nat}{w:World}
theorem aqO(hE:Dj (s.L g) w)(hU:Gn s.bU s.AU s.cU s.U)(x:Int):
 Calls prog 278 [ptr s.pA,.int .i64 x].toArray w fun e w'=>(∃r ok,e= .returned (.tuple #[.int .i64 r,.bool ok])∧Bm.PY s.U x.toNat r ok)∧Only [] w w':=by
 have HR:=Heap.start hE
 have H:=Heap.nil w
 have hN:=fun{W:World} hE=>afz (p:=s.pU) hU W hE x
 unfold IX.L IX.C at HR
 generalize ids _=I at*
 refine BO 14 func278 O (AP (oG ?_))
 refine dL ?_
 refine BI O Pm (iF ?_)
 refine AQ O (s_call O (hN ((HR.same H.only).Bl 5 O)) (Ze O) ?_)
 rintro e W1 ⟨⟨r,ok,rfl,hx⟩,H'⟩
 refine⟨_,rfl,?_⟩
 have H:=H.same H';clear H'
 refine CV O O (jR ?_)
 refine vG ?_
 exact⟨⟨r,ok,rfl,hx⟩,H.only⟩
theorem arG(hE:Dj (TF g d s) w)(hW:Ob.Qv d.cache)(hA:GK d.cache s N fun _=>False)(hN:N≤90000)(a:Int)(ha:Ee s.U a=true):
 Calls prog 167 [ptr s.pA,.int .i64 (-1),.int .i64 a].toArray w fun e w'=>∃F' KP,GK d.cache {s with U:=Bm.put s.U a false,F:=F',FL:=KP} (N+1) (fun _=>False)∧e= .returned (.int .i64 0)∧Heap w (ids (TF g d s)) (TF g d {s with U:=Bm.put s.U a false,F:=F',FL:=KP}) w':=by
 have H:=Heap.start hE
 have hpl:=hA.us a ha
 obtain⟨p1,p2,k,hk,hkk,hcell⟩:=(Vl hA.sm hA.hl a).1 hpl
 have hbd:=hcell.bd hk
 have hn2:=hA.n2
 have hPl:=fun{W:World} hE=>aii g d s W hE hW hA.hl Y hA.sm hA.cl a (by have:=Cl.Gt (k:Int) Y Y;omega)
 rw[hpl]at hPl
 have hhb:=Ob.QS hW a
 have hSm:=fun(W:World)=>aeN (Ob.hp d.cache a) (Ob.hq d.cache a) W Y Y
 rw[p2,hkk]at hSm
 have hHs:∀{W:World},Dj (II s.pU s.bU s.AU s.cU s.U) W→Calls prog 124 [pt s.pU,.int .i64 a].toArray W fun e w'=>e= .returned (.bool (Ee s.U a))∧Only [] W w':=fun{W} hE=>aeu (p:=s.pU) hA.su W hE a
 rw[ha]at hHs
 have hDr:=fun{W:World} hE=>apu (p:=s.pU) hA.su W hE a
 have hnm:a∉cls (xsOf s.F) k:=fun h=>by
  have:=((hA.fm k hk a).1 h).2.1
  rw[ha]at this;cases this
 obtain⟨S',e1,f1,q1,q2⟩:=ahM hA.fs hk hnm
 have hPu:=fun{W:World} hE=>apz (p:=s.pF) (b:=s.bF) (w:=W) hE hA.fr Y k a
 rw[e1]at hPu
 simp only at hPu
 generalize ids (TF g d s)=I at*
 unfold TF IX.L IX.C at H⊢
 refine BO 83 func167 O (oM ?_)
 refine eH ?_
 refine s_call O (hPl H.ents) (apL O) ?_
 rintro e W1 ⟨⟨P,D,rfl,hPD⟩,H'⟩
 refine⟨_,rfl,?_⟩
 have H:=H.same H';clear H'
 refine cO ?_
 refine Ei H O G8 fun p7 _ H=>Va H 0 O O O O O O O DV ?_
 clear H;refine axS fun _ H=>?_
 refine BH O (AO (A8 (AP (BX O (AV (Ea O) (BX O (Bo 20 O (Ls O) (Bo 20 O (DT O) (Bo 20 O (Cm O Pm) (Bo 20 O (DR H 2 O O O Ig) (Bo 20 O (Gm O) (s_call (ET 20 Aw O) (hHs (H.Bl 7 O)) (Qb O) ?_))))))))))))
 rintro e W1 ⟨rfl,H'⟩
 refine⟨_,rfl,?_⟩
 have H:=H.same H';clear H'
 refine Bo 20 O (Ea O) (gQ ?_)
 refine A8 ?_
 obtain⟨rfl,rfl⟩:=hPD rfl
 refine DF (tJ ?_)
 refine BL H O (hSm _) (X3 O) fun W1 H=>nP ?_
 refine eU ?_
 refine dL ?_
 refine BI O Pm (BG H 2 O O O Ig (AQ O (s_call O (hDr (H.Bl 7 O)) (auz O) ?_)))
 rintro e W1 ⟨rfl,H'⟩
 refine⟨_,rfl,?_⟩
 have H:=H.CX 7 rfl H';clear H';simp only[Bv]at H
 refine AO (iQ ?_)
 refine AV (DI O O Y) (BX O (Df 64 O O (Df 64 O O (EZ O O (AO (EF O (dL ?_)))))))
 refine BI O VQ (BG H 2 O O O abo (AQ O (AQ O (s_call O (hPu (H.Bl 8 O)) (aqi O) ?_))))
 rintro e W1 ⟨rfl,F2,FL2,H',hF2,hx2⟩
 refine⟨_,rfl,?_⟩
 have H:=H.CX 8 rfl H';clear H';simp only[Bv]at H
 refine xA ?_
 refine Dx (aK ?_)
 rw[←hx2]at f1 q1 q2
 exact⟨F2,FL2,hA.freed ha hk hcell f1 hF2 q1 q2,rfl,H.drop⟩
theorem asv(hE:Dj (TF g d s) w)(hD:Dv d m)(hg:Q5 g m)(hm:m≤100000)(hA:GK d.cache s N fun _=>False)(hN:N≤90000)(b:Nat)(hb:1≤b∧b<s.n):
 Calls prog 260 [ptr s.pA,.int .i64 b].toArray w fun e w'=>∃(v:Bool) (d':Nv.D) (hs':List Ob.H3) (S' E':IL) (F':Nat→EP) (KP:Vf),Hst d d' m∧GK d'.cache {s with hs:=hs',S:=S',E:=E',F:=F',FL:=KP} N (fun _=>False)∧(hs'=s.hs∨hs'=s.hs.set b (0,0,0))∧e= .returned (.tuple #[.bool v,.int .i64 0])∧Heap w (ids (TF g d s)) (TF g d' {s with hs:=hs',S:=S',E:=E',F:=F',FL:=KP}) w':=by
 have H:=Heap.start hE
 have hn2:=hA.n2
 have hml:8*m=512*s.n:=by rw[←hD.len];exact hA.cl
 obtain⟨h,hh⟩:∃h,s.hs[b]? =some h:=⟨_,Ba (by rw[hA.hl];exact hb.2)⟩
 have hGt:=fun{W:World} hE=>ane (w:=W) (g:=g) (n:=s.n) (pT:=s.pT) (p:=s.ph) (hs:=s.hs) (rs:=s.rs) (c:=s.hc) hE hA.hl Y b hb.1 h hh
 have hFi:=fun(W:World)=>ais (s.n:Int) b W Y Y
 rw[Ce.abl _ _ Y Y]at hFi
 have hBt:=fun{W:World} hE=>alU (p:=s.pU) hA.su W hE ((b:Int)*512) ((b:Int)*512+512)
 have hmem:∀a:Int,a/512=b→Ee s.U a=true→a∈Bm.list s.U ((b:Int)*512) ((b:Int)*512+512):=fun a h1 h2=>by
  have hr:=NZ h2
  unfold Bm.list
  rw[GZ]
  refine⟨?_,by simp;omega⟩
  obtain⟨i,rfl⟩:=BR hr.1
  exact Bm.elem_iff.2 (by rw[←Bm.U9];exact h2)
 have hll:(Bm.list s.U ((b:Int)*512) ((b:Int)*512+512)).length≤131072:=by
  have h1:=Bm.aaL s.U ((b:Int)*512) ((b:Int)*512+512) s.U.length
  rw[Bm.Ug _ _ _ _ (BF _)]at h1
  have:=hA.ul;omega
 generalize Bm.list s.U ((b:Int)*512) ((b:Int)*512+512)=li at*
 have hRl:=fun{k:Int} {W:World} hE hk=>ajs (g:=g) (d:=d) (m:=m) (n:=s.n) (pM:=s.pM) (pT:=s.pT) (p:=s.ph) (c:=s.hc) (pX:=s.pX) (bS:=s.bS) (bE:=s.bE) (hs:=s.hs) (rs:=s.rs) (S:=s.S) (E:=s.E) (w:=W) hE hD hg hm Y hA.hl Y hA.rn b hb k hk
 generalize ids (TF g d s)=I at*
 unfold TF IX.L IX.C at H⊢
 rcases hA.sm h (BP hh)with rfl|⟨k,hk0,Jv,rfl⟩
 ·refine xM ?_
  refine BL H O ((by have H2:Heap w I ([_,_]++ [_,_,_,_,_,_]) _:=H.order [3,4,0,1,2,5,6,7] O O;exact hGt H2.part)) (acX O) fun W1 H=>?_
  refine Ei H O Jf fun p6 _ H=>tH ?_
  clear H;refine axS fun _ H=>?_
  refine AO (o7 ?_)
  refine BL H O (hFi _) (UE O) fun W1 H=>AY O (AO (A8 (AP (BI O KX (fV ?_)))))
  refine AV (Jr O O Y) (BX O (qL ?_))
  refine qL ?_
  refine qL ?_
  refine EZ O O (oV ?_)
  refine BH O (xA ?_)
  refine Dx (nV ?_)
  exact⟨false,d,s.hs,s.S,s.E,s.F,s.FL,.refl hD,hA,.inl rfl,rfl,H.drop⟩
 ·obtain⟨kk,rfl⟩:=BR hk0
  by_cases h0:li.length=0
  ·have hno:∀a:Int,a/512=b→Ee s.U a=false:=fun a ha=>by
    cases hu:Ee s.U a with
    |false=>rfl
    |true=>
     have:=hmem a ha hu
     rw[List.length_eq_zero_iff.1 h0]at this;cases this
   have hRm:=fun{W:World} hE=>anv (p:=s.pF) (b:=s.bF) (w:=W) hE hA.fr Y (kk:Int) ((b:Int)*512) ((b:Int)*512+512)
   have hrm:(V6 (xsOf s.F) kk ((b:Int)*512) ((b:Int)*512+512)).1=MN (xsOf s.F) kk ((b:Int)*512) ((b:Int)*512+512) 5:=by
    unfold V6
    rw[aeQ Y,BJ];rfl
   rw[hrm]at hRm
   generalize(V6 (xsOf s.F) kk ((b:Int)*512) ((b:Int)*512+512)).2=rv at*
   refine xM ?_
   refine BL H O ((by have H2:Heap w I ([_,_]++ [_,_,_,_,_,_]) _:=H.order [3,4,0,1,2,5,6,7] O O;exact hGt H2.part)) (acX O) fun W1 H=>?_
   refine Ei H O Jf fun p6 _ H=>tH ?_
   clear H;refine axS fun _ H=>?_
   refine AO (o7 ?_)
   refine BL H O (hFi _) (UE O) fun W1 H=>AY O (AO (A8 (AP (jk ?_))))
   rintro e W1 ⟨rfl,H'⟩
   refine⟨_,rfl,?_⟩
   have H:=H.same H';clear H'
   refine Bo 27 O (Jy O O Y) (gQ ?_)
   refine A8 ?_
   refine Gl (fun f W=>∃F1 Xi,ML F1 Xi N∧xsOf F1=MN (xsOf s.F) kk ((b:Int)*512) ((b:Int)*512+512) 5∧f 0=ptr s.pA∧f 1= .int .i64 b∧Heap w I [grp (Dy g d),blk s.pA [ptr s.pM,ptr g.p,.int .i64 s.n,pt s.pU,Q7 s.pF] 238,blk s.pM (mnC s.pT s.pX s.n) 265,blk s.pT (tbC g s.n s.ph s.hc) 306,hrow s.ph s.hs s.rs,grp (RI s.pX s.bS s.bE s.S s.E s.n),grp (II s.pU s.bU s.AU s.cU s.U),grp (ZK s.pF s.bF F1 F1 Xi)] W) ?_ ?_
   ·refine G5 mixed ?_;replace H:=H.drew
    refine bg ?_
    refine CZ 2 O O O (fun _ hS=>Cm O VQ) trivial (CZ 4 O O O (fun _ hS=>Cm O aic) trivial (qy ?_))
    refine CZ 7 O O O (fun _ hS=>Cc (v:= .int _ _) O) trivial (CZ 8 O O O (fun _ hS=>Dq O O (wI Y)) trivial ?_)
    refine Et 3 5 ?_ ?_
    ·refine CB O (BG H 2 O O O abo (oW ?_))
     refine fV ?_
     refine sU ?_
     refine s_call O (hRm (H.Bl 8 O)) (apF O) ?_
     rintro e W1 ⟨rfl,F1,Xi,H',hF1,hx1⟩
     refine⟨_,rfl,?_⟩
     have H:=H.CX 8 rfl H';clear H';simp only[Bv]at H
     refine kJ ?_
     exact⟨F1,Xi,hF1,hx1,rfl,rfl,H.drop⟩
    ·refine CB O (fV ?_)
     refine lY ?_
     refine BG H 2 O O O abo (sU ?_)
     refine s_call O (hRm (H.Bl 8 O)) (apF O) ?_
     rintro e W1 ⟨rfl,F1,Xi,H',hF1,hx1⟩
     refine⟨_,rfl,?_⟩
     have H:=H.CX 8 rfl H';clear H';simp only[Bv]at H
     refine kJ ?_
     exact⟨F1,Xi,hF1,hx1,rfl,rfl,H.drop⟩
   clear H
   rintro f W ⟨F1,Xi,hF1,hx1,f0,f1,H⟩
   obtain⟨f,rfl⟩:=LZ f0 f1
   clear f0 f1
   refine AX (jW ?_)
   refine BI O Qk (BG H 1 O O O Xt (AQ O ?_))
   refine s_call O ((by have H2:Heap w I ([_,_,_,_,_]++ [_,_,_]) _:=H.order [0,2,3,4,5,1,6,7] O O;exact hRl H2.part hh)) (avc O) ?_
   rintro e W1 ⟨d1,d2,S2,E2,st1,st2,hrn,rfl,H'⟩
   refine⟨_,rfl,?_⟩
   have H2:Heap w I ([_,_,_,_,_]++ [_,_,_]) _:=H.order [0,2,3,4,5,1,6,7] rfl rfl;have H3:=H2.step H' (fun i hi=>hi);clear H H' H2;simp only[ZM,EL,Ey]at H3;have H:Heap w I [_,_,_,_,_,_,_,_] _:=H3.order [0,5,1,2,3,4,6,7] rfl rfl;clear H3
   refine vH ?_
   refine AP (BH O (xA ?_))
   refine nV ?_
   obtain⟨hst,hlen2,hget⟩:=ahY hD st1 st2 Y Y
   refine⟨true,d2,s.hs.set b (0,0,0),S2,E2,F1,Xi,hst,hA.released hb Y hh hno hrn hlen2 hget (by rw[hx1];exact asa hA.fs Y _ _) hF1 (fun x=>?_) (fun j hj=>?_),.inr O,rfl,H⟩
   ·rw[hx1,agz]
    unfold stay gone
    rw[GZ]
    simp only[Bool.not_eq_true',decide_eq_false_iff_not]
    constructor
    ·rintro⟨h1,h2⟩;exact⟨h1,fun h3=>h2 Y⟩
    ·rintro⟨h1,h2⟩;exact⟨h1,fun h3=>h2 Y⟩
   ·rw[hx1,agl _ _ _ _ _ hj]
  ·refine xM ?_
   refine BL H O ((by have H2:Heap w I ([_,_]++ [_,_,_,_,_,_]) _:=H.order [3,4,0,1,2,5,6,7] O O;exact hGt H2.part)) (acX O) fun W1 H=>?_
   refine Ei H O Jf fun p6 _ H=>tH ?_
   clear H;refine axS fun _ H=>?_
   refine AO (o7 ?_)
   refine BL H O (hFi _) (UE O) fun W1 H=>AY O (AO (A8 (AP (jk ?_))))
   rintro e W1 ⟨rfl,H'⟩
   refine⟨_,rfl,?_⟩
   have H:=H.same H';clear H'
   refine Bo 27 O (Oz O O Y) (DW O O (oV ?_))
   refine BH O (xA ?_)
   refine Dx (nV ?_)
   exact⟨false,d,s.hs,s.S,s.E,s.F,s.FL,.refl hD,hA,.inl rfl,rfl,H.drop⟩
end
end
end
section
section
open Go.RowKit
structure UN where
 p:Nat
 A:Option Addr
 c:Nat
 xs:List Int
 missed:Int
def UN.L(s:UN)(most:Int):List FU:=[blk s.p [.slice s.A s.xs.length s.c,.int .i64 most,.int .i64 s.missed] 317,Ec 1 (.slice s.A s.xs.length s.c) s.xs.length (s.xs.map (Value.int .i64)) 3]
section
variable{s:UN}{most:Int}{w:World}
theorem arT(hE:Dj (s.L most) w)(hl:s.xs.length≤1000)(x:Int)(h:(s.xs.length:Int)<most):
 Calls prog 270 [ptr s.p,.int .i64 x].toArray w fun e w'=>∃A c,e= .returned (.bool true)∧Heap w (ids (s.L most)) (UN.L {s with A:=A,c:=c,xs:=s.xs++ [x]} most) w':=by
 have H:=Heap.start hE
 obtain⟨p,A,c,xs,missed⟩:=s
 generalize ids (UN.L _ _)=I at*
 unfold UN.L at H⊢
 simp only[Cj,List.length_singleton]at H hl h⊢
 refine BO 32 func270 O (uV ?_)
 refine o9 ?_
 refine BZ (fun _ H=>Fz O O Y) (Iy ?_)
 clear H;intro _ H
 refine AX (DC O (Bj (AX (AP (uo ?_)))))
 refine BI O LP (BG H 0 O O O KQ (qX ?_))
 clear H;intro _ An cn _ H;simp only[Bv,Nat.reduceAdd]at H
 refine BU O (BI O LP (nH ?_))
 clear H;refine axS fun _ H=>?_
 refine AO (AP (iP ?_))
 exact⟨_,_,rfl,H⟩
theorem arw(hE:Dj (s.L most) w)(hl:s.xs.length≤1000)(x:Int)(h:¬(s.xs.length:Int)<most):
 Calls prog 270 [ptr s.p,.int .i64 x].toArray w fun e w'=>∃m,e= .returned (.bool false)∧Heap w (ids (s.L most)) (UN.L {s with missed:=m} most) w':=by
 have H:=Heap.start hE
 obtain⟨p,A,c,xs,missed⟩:=s
 generalize ids (UN.L _ _)=I at*
 unfold UN.L at H⊢
 simp only at H hl h⊢
 refine BO 32 func270 O (uV ?_)
 refine o9 ?_
 refine BZ (fun _ H=>GI O O Y) (Iy ?_)
 clear H;intro _ H
 refine AX (EF O (dL ?_))
 refine BI O aef (fV ?_)
 refine AV (Dq O O O) (BU O (BI O aef (dI ?_)))
 clear H;refine axS fun _ H=>?_
 refine AO (mX ?_)
 exact⟨_,rfl,H⟩
theorem auh(hE:Dj (s.L most) w)(hl:s.xs.length≤1000):
 Calls prog 255 [ptr s.p].toArray w fun e w'=>(s.xs=[]∧e= .returned (.tuple #[.int .i64 0,.bool false])∧Only [] w w')∨∃xs x,s.xs=xs++ [x]∧e= .returned (.tuple #[.int .i64 x,.bool true])∧Heap w (ids (s.L most)) (UN.L {s with xs:=xs} most) w':=by
 have H:=Heap.start hE
 have HR:=H
 obtain⟨p,A,c,xs,missed⟩:=s
 generalize ids (UN.L _ _)=I at*
 unfold UN.L at H HR
 simp only at H HR hl⊢
 rcases JW xs with rfl|⟨ys,x,rfl⟩
 ·clear H
  have H:=Heap.nil w
  refine BO 39 func255 O (AP (oG ?_))
  refine oM ?_
  refine jW ?_
  refine BI O LP (BG (HR.same H.only) 0 O O O KQ (Eb O underlying22 (AV (D7 O O J) (oV ?_))))
  refine AQ O (oG ?_)
  refine BM (Dx (dS ?_))
  exact .inl ⟨rfl,rfl,H.only⟩
 ·clear HR
  have hlen:(ys++ [x]).length=ys.length+1:=by simp
  have hx:(ys++ [x])[ys.length]? =some x:=by simp
  rw[JU]at H hl⊢
  have hc:=Pq H 1 rfl
  obtain⟨q,rfl⟩:=H.JO 1 rfl Y
  generalize hn:(ys++ [x]).length=m at*
  subst hlen
  refine BO 39 func255 O (AP (oG ?_))
  refine oM ?_
  refine jW ?_
  refine BI O LP (BG H 0 O O O KQ (Eb O underlying22 (kC ?_)))
  refine A8 (k_q mixed Aw H (gW ?_))
  refine gW ?_
  refine iL ?_
  refine BZ (fun _ H=>H8 (i:=ys.length) O O Y Y underlying22 Ji) (BZ (fun _ H=>XJ H 1 O O hx FM) (BZ (fun _ H=>DK (v:= .int _ _) O) (Iy ?_)))
  clear H;intro _ H
  refine AX (A8 (XT 14 mixed Aw H O O (dW ?_)))
  refine gW ?_
  refine gW ?_
  refine iL ?_
  refine BZ (fun _ H=>P6 (j:=ys.length) O O Y Y underlying22 Ji) (BZ (fun _ H=>DT O) (BZ (fun _ H=>Cm O LP) (Iy ?_)))
  clear H;intro _ H
  refine nH ?_
  clear H;refine axS fun _ H=>?_
  refine AO (AP (AQ O (vG ?_)))
  have h1:=H.Ro 1 rfl (m:=ys.length) Y
  simp only[Bf,Bd,GY]at h1
  rw[←Kw,PW rfl]at h1
  exact .inr ⟨ys,x,rfl,rfl,h1⟩
theorem an8(hE:Dj (s.L most) w)(hl:s.xs.length≤1000):
 Calls prog 253 [ptr s.p].toArray w fun e w'=>e= .returned (.tuple #[])∧Heap w (ids (s.L most)) (UN.L {s with xs:=[],missed:=0} most) w':=by
 have H:=Heap.start hE
 obtain⟨p,A,c,xs,missed⟩:=s
 generalize ids (UN.L _ _)=I at*
 unfold UN.L at H
 simp only at H hl⊢
 have hc:=Pq H 1 rfl
 have e0:A=abf A c 0 1:=by cases A<;>simp[abf,Addr.add]
 refine BO 17 func253 O (dL ?_)
 refine BI O LP (BG H 0 O O O KQ (aqd (enc:=Value.int .i64) (z:=0) (i:=0) H 1 O (congrArg (fun A=>Value.slice A xs.length c) e0) O O (Jh _) underlying22 JH O ?_))
 intro _ H';try (simp only[Bv,Nat.reduceAdd]at H')
 clear H;have H:=H';clear H'
 refine AO (DF (Bg O (uo ?_)))
 refine BI O LP (BG H 0 O O O KQ (AV (P6 (j:=0) O O O Y underlying22 Ji) (BU O (BI O LP (nH ?_)))))
 clear H;refine axS fun _ H=>?_
 refine BU O (BI O aef (dI ?_))
 clear H;refine axS fun _ H=>?_
 refine AZ (fin0 O ?_)
 have h1:=H.Ro 1 rfl (m:=0) Y
 exact⟨rfl,h1⟩
end
end
end
section
section
open Go.RowKit
section
variable{g:Geo}{d:Nv.D}{s:IX}{pH pS b c:Nat}{A:Option Addr}{l:List Bool}{w:World}
theorem Gn.len2{b:Nat}{A:Option Addr}{c:Nat}{l l':List Bool}(h:Gn b A c l)(e:l'.length=l.length):Gn b A c l':=
 ⟨by rw[show Bm.nw l'=Bm.nw l from by unfold Bm.nw;rw[e]];exact h.row,by rw[e];exact h.len⟩
structure aws (d:Nv.D) (s:IX) (l l1:List Bool) (a:Int) (op:List Int):Prop where
 len:l1.length=l.length
 up:∀x,Ee l x=true→Ee l1 x=true
 got:a∈op∨(Ee s.U a=true→a<l.length→Ee l1 a=true)
 cl:∀P,Shut d s P→P a→(∀y∈op,P y)∧∀x,Ee l1 x=true→Ee l x=true∨(P x∧Ee s.U x=true)
theorem apE(hE:Dj [grp (TF g d s),grp (hdE s.pA pH pS b A c l)] w)(hW:Ob.Qv d.cache)(hl:d.cache.length≤1000000000)(hU:Gn s.bU s.AU s.cU s.U)(hh:∀a,Ee s.U a=true→Ob.hd d.cache a=true)(hs:Gn b A c l)(a:Int)(ha:Rq a):
 Calls prog 122 [ptr pH,.int .i64 a].toArray w fun e w'=>∃(l':List Bool) (z:Int),Ov d s l l' [a]∧e= .returned (.int .i64 z)∧Heap w (ids (hdE s.pA pH pS b A c l)) (hdE s.pA pH pS b A c l') w':=by
 have hDO:=fun{W:World} (h:Only (ids (hdE s.pA pH pS b A c l)) w W)=>Heap.start (hE.off h)
 have H:Heap w (ids (hdE s.pA pH pS b A c l)) [blk pH [ptr s.pA,pt pS] 191,grp (II pS b A c l)] w:=Heap.start hE.snd
 generalize hI:ids (hdE s.pA pH pS b A c l)=I at*
 have hLn:=fun{W:World} hE=>auW (p:=pS) (b:=b) (A:=A) (c:=c) (l:=l) W hE
 have hc0:=Bm.cnt_le l
 have hlen:=hs.len
 refine BO 67 func122 O (oM ?_)
 refine dL ?_
 refine BI O TU (BG H 0 O O O Ig (BL H O (hLn (H.Bl 1 O)) (ap2 O) fun W1 H=>xK ?_))
 refine rU ?_
 intro q16 _ H';clear H;have H:=H';clear H'
 refine EM O (AO (A8 (E8 (EO (fun z f W=>∃(l1:List Bool) (op:List Int) (OA:Option Addr) (oc:Nat),aws d s l l1 a op∧(∀y∈op,Rq y)∧z=64*(l1.length-Bm.cnt l1)+op.length∧z≤64*131072+1∧f 0=ptr pH∧f 5= .int .i64 (Bm.cnt l:Nat)∧f 6= .slice OA op.length oc∧Heap w I [Ec 1 (.slice OA op.length oc) op.length (op.map (Value.int .i64)) 3,blk pH [ptr s.pA,pt pS] 191,grp (II pS b A c l1)] W) (64*(l.length-Bm.cnt l)+1) ⟨l,[a],_,_,⟨rfl,fun _ h=>h,.inl J,fun P hP h=>⟨by simpa using h,fun _ h=> .inl h⟩⟩,by simpa using ha,rfl,Y,rfl,rfl,rfl,H⟩ ?_))))
 clear H
 rintro z f W ⟨l1,op,OA,oc,hin,hop,hz,hzb,f0,f5,f6,H⟩
 replace hz:=hz.symm
 subst hz
 obtain⟨f,rfl⟩:=KI f0 f5 f6
 clear f0 f5 f6
 have hs1:=hs.len2 hin.len
 have hc1:=Bm.cnt_le l1
 have hl1:=hin.len
 by_cases h0:op.length=0
 ·have awq:=fun{W:World} hE=>auW (p:=pS) (b:=b) (A:=A) (c:=c) (l:=l1) W hE
  obtain rfl:op=[]:=List.length_eq_zero_iff.1 h0
  refine sS ?_
  refine AV (Jy O O Y) (AO (eG ?_))
  refine dL ?_
  refine BI O TU (BG H 1 O O O Ig (BL H O (awq (H.Bl 2 O)) (ap2 O) fun W1 H=>AQ O (AV (Gu O O O) (eu ?_))))
  exact⟨l1,_,⟨hin.len,hin.up,fun x hx=>by
   rw[Bz.1 hx]
   exact hin.got.resolve_left J,fun P hP h=>(hin.cl P hP (h a J)).2⟩,rfl,H.drop⟩
 ·obtain⟨y,hy⟩:∃y,op[op.length-1]? =some y:=⟨_,Ba Y⟩
  have hym:=BP hy
  have hyb:=hop y hym
  have arv:∀y∈op.take (op.length-1),Rq y:=fun y hy=>hop y (Jb hy)
  have hpl:(op.take (op.length-1)).length=op.length-1:=by rw[Ed];omega
  have hap:op=op.take (op.length-1)++ [y]:=by
   rw[KT hy,show op.length-1+1=op.length by omega,F9]
  obtain⟨q,rfl⟩:=H.JO 0 rfl h0
  have hcap:=Pq H 0 rfl
  have XF:=fun{W:World} hE=>abq (g:=g) (s:=s) (w:=W) hE hU y
  have hAd:=fun{W:World} hE=>adT (p:=pS) hs1 W hE y
  have hPt:=fun{W:World} hE=>agJ (g:=g) (d:=d) (w:=W) hE hW hl y
  generalize hT:op.take (op.length-1)=T at*
  refine sS ?_
  refine AV (Oz O O Y) (AO (EF O (Bj (AX (E8 (vW ?_))))))
  refine AV (H8 (i:=(op.length-1)) O O Y Y underlying22 Ji) (AV (XJ H 0 O O hy FM) (AY O (AO (vW ?_))))
  refine AV (P6 (j:=op.length-1) O O Y Y underlying22 Ji) (EM O (AO (A8 (A8 ?_))))
  replace H:=H.Ro (m:=op.length-1) 0 rfl Y
  rw[GY,←Kw,hT]at H
  simp only[Bv]at H
  have hTl:T.length=op.length-1:=hpl
  have hpop:∀P,Shut d s P→P a→(∀x∈T,P x)∧∀x,Ee l1 x=true→Ee l x=true∨(P x∧Ee s.U x=true):=fun P hP h=>
   ⟨fun x hx=>(hin.cl P hP h).1 x (by rw[hap];exact CO _ hx),(hin.cl P hP h).2⟩
  cases hu:Ee s.U y with
  |false=>
   rw[hu]at XF
   rw[←hTl]at H
   refine jw ?_
   refine BI O aad (BG H 1 O O O PZ (AQ O (BL H O (XF (hDO H.only).drop.ents) (UD O) fun W1 H=>AV (Ib O) (BX O (Df 38 O O (Df 38 O O (Df 38 O O (Df 38 O O (Df 38 O O (Df 38 O O (Df 38 O O (EZ O O ?_))))))))))))
   refine AO (EF O (Eo (CY (Fv (Dk ?_)))))
   refine⟨_,_,?_,rfl,l1,T,some ⟨q,0,none⟩,oc,⟨hin.len,hin.up,?_,hpop⟩,arv,rfl,Y,rfl,rfl,(by rw[hTl];rfl),H⟩
   ·omega
   ·rcases hin.got with h|h
    ·rw[hap]at h
     rcases Ci.1 h with h|h
     ·exact .inl h
     ·rw[Bz.1 h,hu]
      exact .inr fun h=>absurd h J
    ·exact .inr h
  |true=>
   rw[hu]at XF
   have hyU:=NZ hu
   cases hq:(decide (0≤y∧y<l1.length)&& !Bm.has l1 y)with
   |false=>
    rw[hq]at hAd
    rw[←hTl]at H
    refine jw ?_
    refine BI O aad (BG H 1 O O O PZ (AQ O (BL H O (XF (hDO H.only).drop.ents) (UD O) fun W1 H=>ni ?_)))
    rintro e W1 ⟨rfl,H'⟩
    refine⟨_,rfl,?_⟩
    have H:=H.CX 2 rfl H';clear H';simp only[Bv]at H
    refine Bo 38 O (Ib O) (DW O O (AO (EF O (Eo (CY (Fv (Dk ?_)))))))
    have hput:Bm.put l1 y true=l1:=by
     by_cases hr:0≤y∧y<l1.length
     ·obtain⟨i,rfl⟩:=BR hr.1
      rw[decide_eq_true hr,Gy]at hq
      rw[Bm.RU true Y]
      exact Bm.set_self Y (by rw[←Bm.U9];simpa using hq)
     ·exact Bm.V7 true hr
    rw[hput]at H
    refine⟨_,_,?_,rfl,l1,T,some ⟨q,0,none⟩,oc,⟨hin.len,hin.up,?_,hpop⟩,arv,rfl,Y,rfl,rfl,(by rw[hTl];rfl),H⟩
    ·omega
    ·rcases hin.got with h|h
     ·rw[hap]at h
      rcases Ci.1 h with h|h
      ·exact .inl h
      ·rw[Bz.1 h]
       refine .inr fun _ hlt=>?_
       rw[decide_eq_true ⟨hyU.1,Y⟩,Gy]at hq
       show Bm.has l1 y=true
       simpa using hq
     ·exact .inr h
   |true=>
    rw[hq]at hAd
    simp only[FQ,decide_eq_true_eq,Bool.not_eq_true']at hq
    obtain⟨hr,hno⟩:=hq
    have hpb:=Ob.ahV hW y
    have awH:=fun{W:World} hE=>hPt (W:=W) hE (hh y hu)
    have hll:(Ob.ptrs d.cache y).length≤63:=by
     unfold Ob.ptrs;rw[Ob.Ub];have:=Ob.QS hW y;omega
    have hDv:=fun{W:World} hE=>Yd (g:=g) (s:=s) (w:=W) hE
    obtain⟨hcn,hpn⟩:Bm.cnt (Bm.put l1 y true)=Bm.cnt l1+1∧∀x,Ee (Bm.put l1 y true) x=if y=x then true else Ee l1 x:=by
     refine⟨?_,fun x=>Bm.V9 l1 y x true hr⟩
     obtain⟨i,rfl⟩:=BR hr.1
     rw[Bm.RU true Y]
     exact Bm.ahB l1 i Y (by rw[←Bm.U9];exact hno)
    have hc2:=Bm.cnt_le (Bm.put l1 y true)
    have hl2:=Bm.Pv l1 y true
    generalize Bm.put l1 y true=l2 at*
    generalize hPL:Ob.ptrs d.cache y=pl at*
    refine jw ?_
    refine BI O aad (BG H 1 O O O PZ (AQ O (BL H O (XF (hDO H.only).drop.ents) (UD O) fun W1 H=>ni ?_)))
    rintro e W1 ⟨rfl,H'⟩
    refine⟨_,rfl,?_⟩
    have H:=H.CX 2 rfl H';clear H';simp only[Bv]at H
    refine Bo 38 O (Ea O) (gQ ?_)
    refine dL ?_
    refine BI O aad (BG H 1 O O O PZ (BL H O (hDv (hDO H.only).drop.ents) (ah9 O) fun W1 H=>AQ O (s_call O (awH ((hDO H.only).Bl 0 O)) (al4 O) ?_)))
    rintro e W1 ⟨QA,qc,rfl,H'⟩
    refine⟨_,rfl,?_⟩
    have H:=H.more H';clear H';simp only[Bv]at H
    refine Dt O (nM ?_)
    refine EM O (AY O (AO (DF (Dz O (Dz O (nJ ?_))))))
    clear H;intro A2 c2 _ H;simp only[Bv,Nat.reduceAdd]at H
    refine EM O (AZ (CS (Dk ?_)))
    have hTp:(T++pl).length=T.length+pl.length:=Cj
    rw[←hTl,←hTp]at H
    refine⟨_,_,?_,rfl,l2,T++pl,A2,c2,⟨Y,fun x hx=>?_,?_,fun P hP h=>?_⟩,fun x hx=>?_,rfl,?_,rfl,rfl,?_,H⟩
    ·omega
    ·rw[hpn];split
     ·rfl
     ·exact hin.up x hx
    ·rcases hin.got with h|h
     ·rw[hap]at h
      rcases Ci.1 h with h|h
      ·exact .inl (CO _ h)
      ·rw[Bz.1 h]
       exact .inr fun _ _=>by rw[hpn,if_pos rfl]
     ·refine .inr fun h1 h2=>?_
      rw[hpn]
      split
      ·rfl
      ·exact h h1 h2
    ·have hy2:=(hin.cl P hP h).1 y hym
     refine⟨fun x hx=>?_,fun x hx=>?_⟩
     ·rcases Ci.1 hx with h1|h1
      ·exact(hpop P hP h).1 x h1
      ·exact hP y hy2 hu x (by rw[hPL];exact h1)
     ·rw[hpn]at hx
      split at hx
      ·rename_i e;subst e;exact .inr ⟨hy2,hu⟩
      ·exact(hpop P hP h).2 x hx
    ·rcases Ci.1 hx with h1|h1
     ·exact arv x h1
     ·have:=hpb x h1;exact⟨Y,Y⟩
    ·omega
    ·rw[hTp,hTl];rfl
theorem adx(hE:Dj [grp (TF g d s),grp (hdE s.pA pH pS b A c l)] w)(hW:Ob.Qv d.cache)(hl:d.cache.length≤1000000000)(hU:Gn s.bU s.AU s.cU s.U)(hh:∀a,Ee s.U a=true→Ob.hd d.cache a=true)(hs:Gn b A c l)(LA:Option Addr)(n lc:Nat)(xs:List Int)(hS:I5 (Value.int .i64) w (ids (hdE s.pA pH pS b A c l)) LA xs)(hx:xs.length=n)(hn:n≤1000000)(hi:∀x∈xs,Rq x):
 Calls prog 56 [ptr pH,.slice LA n lc].toArray w fun e w'=>∃l':List Bool,Ov d s (List.replicate l.length false) l' xs∧e= .returned (.tuple #[])∧Heap w (ids (hdE s.pA pH pS b A c l)) (hdE s.pA pH pS b A c l') w':=by
 have hDO:=fun{L:List FU} {W:World} (H:Heap w (ids (hdE s.pA pH pS b A c l)) L W)=>hE.on H
 have H:Heap w (ids (hdE s.pA pH pS b A c l)) [blk pH [ptr s.pA,pt pS] 191,grp (II pS b A c l)] w:=Heap.start hE.snd
 generalize hI:ids (hdE s.pA pH pS b A c l)=I at*
 have hCl:=fun{W:World} hE=>ahA (p:=pS) (b:=b) (A:=A) (c:=c) (l:=l) hs W hE
 refine BO 21 func56 O (dL ?_)
 refine BI O TU (BG H 0 O O O Ig (s_call O (hCl (H.Bl 1 O)) (akZ O) ?_))
 rintro e W1 ⟨rfl,H'⟩
 refine⟨_,rfl,?_⟩
 have H:=H.CX 1 rfl H';clear H';simp only[Bv]at H
 refine AO (AP (gU ?_))
 refine xH ?_
 replace H:Heap w I [grp (hdE s.pA pH pS b A c (List.replicate l.length false))] _:=Io H
 have hs0:Gn b A c (List.replicate l.length false):=hs.len2 (by rw[Dn])
 generalize List.replicate l.length false=l0 at*
 refine EO (fun z f W=>∃(i:Nat) (l1:List Bool),i≤n∧z=n-i∧Ov d s l0 l1 (xs.take i)∧f 0=ptr pH∧f 11= .slice LA n lc∧f 12= .int .i64 n∧f 13= .int .i64 i∧Heap w I [grp (hdE s.pA pH pS b A c l1)] W) n ⟨0,l0,Y,rfl,Ov.nil d s l0,rfl,rfl,rfl,rfl,H⟩ ?_
 clear H
 rintro z f W ⟨i,l1,hi1,rfl,hst,f0,f11,f12,f13,H⟩
 obtain⟨f,rfl⟩:=Jj f0 f11 f12 f13
 clear f0 f11 f12 f13
 by_cases hlt:i<n
 ·obtain⟨x,hx1⟩:∃x,xs[i]? =some x:=⟨_,Ba Y⟩
  have hxi:=hi x (BP hx1)
  obtain⟨q,o,rfl,hqI,hrd⟩:=hS Y
  have cx:=hrd _ _ hx1
  have hAd:=fun{W:World} hE=>apE (g:=g) (d:=d) (s:=s) (w:=W) (pH:=pH) (pS:=pS) (b:=b) (A:=A) (c:=c) (l:=l1) hE hW hl hU hh (hs0.len2 hst.len) x hxi
  refine aB ?_
  refine lC ?_
  refine AV (Oe H O cx hqI FM) (AY O (AO (DF (Bg O (AQ O (s_call O (hAd (hDO H)) (apw O) ?_))))))
  rintro e W1 ⟨l2,z2,hst2,rfl,H'⟩
  refine⟨_,rfl,?_⟩
  have H:=H.CX 0 rfl H';clear H';simp only[Bv]at H
  refine AZ (aS ?_)
  refine⟨_,_,?_,rfl,i+1,l2,Y,rfl,?_,rfl,rfl,rfl,rfl,H⟩
  ·omega
  ·rw[←KT hx1];exact hst.app hst2
 ·obtain rfl:i=n:=Y
  rw[show xs.take i=xs by rw[←hx];exact F9]at hst
  refine aU ?_
  refine fin0 O ?_
  exact⟨l1,hst,rfl,Hr H⟩
end
end
end
section
section
open Go.RowKit
structure KF where
 pK:Nat
 p1:Nat
 b1:Nat
 c1:Nat
 p2:Nat
 b2:Nat
 c2:Nat
 A1:Option Addr
 A2:Option Addr
 L1:List Bool
 L2:List Bool
 K:UN
 again:Bool
 cur:Int
def KF.L(pA:Nat)(most:Int)(M:KF):List FU:=[blk M.pK [ptr pA,pt M.p1,pt M.p2,ptr M.K.p,.bool M.again,.int .i64 M.cur] 274,grp (M.K.L most),grp (II M.p1 M.b1 M.A1 M.c1 M.L1),grp (II M.p2 M.b2 M.A2 M.c2 M.L2)]
structure MkG (n:Nat) (most:Int) (M:KF):Prop where
 s1:Gn M.b1 M.A1 M.c1 M.L1
 s2:Gn M.b2 M.A2 M.c2 M.L2
 l1:M.L1.length=n
 l2:M.L2.length=n
 k:(M.K.xs.length:Int)≤most
 cu:0≤M.cur∧M.cur≤n
structure Tz (n:Nat) (most:Int) (U:List Bool) (M M':KF) (zs:List Int):Prop where
 g:MkG n most M'
 e:{M' with L1:=M.L1,K:=M.K,again:=M.again}=M
 p:M'.K.p=M.K.p
 up:∀x,Ee M.L1 x=true→Ee M'.L1 x=true
 got:∀a∈zs,Ee U a=true→Ee M'.L1 a=true
 nw:∀x,Ee M'.L1 x=true→Ee M.L1 x=true∨(Ee U x=true∧(x∈M'.K.xs∨M'.again=true))
 ks:∀x∈M.K.xs,x∈M'.K.xs
 ag:M.again=true→M'.again=true
theorem Tz.pk{n:Nat}{most:Int}{U:List Bool}{M M':KF}{zs:List Int}(h:Tz n most U M M' zs):M'.pK=M.pK:=by have:=congrArg KF.pK h.e;exact this
theorem Tz.refl{n:Nat}{most:Int}{U:List Bool}{M:KF}(h:MkG n most M){zs:List Int}(hz:∀a∈zs,Ee U a=true→Ee M.L1 a=true):Tz n most U M M zs:=⟨h,rfl,rfl,fun _ h=>h,hz,fun _ h=> .inl h,fun _ h=>h,fun h=>h⟩
theorem Tz.trans{n:Nat}{most:Int}{U:List Bool}{M M1 M2:KF}{zs ys:List Int}(h:Tz n most U M M1 zs)(k:Tz n most U M1 M2 ys):Tz n most U M M2 (zs++ys):=by
 refine⟨k.g,?_,k.p.trans h.p,fun x hx=>k.up x (h.up x hx),fun a ha hu=>?_,fun x hx=>?_,fun x hx=>k.ks x (h.ks x hx),fun ha=>k.ag (h.ag ha)⟩
 ·have h1:=h.e
  have h2:=k.e
  rw[←h2]at h1
  exact h1
 ·rcases Ci.1 ha with ha|ha
  ·exact k.up a (h.got a ha hu)
  ·exact k.got a ha hu
 ·rcases k.nw x hx with h1|h1
  ·rcases h.nw x h1 with h2|⟨h2,h3⟩
   ·exact .inl h2
   ·exact .inr ⟨h2,h3.imp (k.ks x) k.ag⟩
  ·exact .inr h1
def KF.col(M:KF)(a:Int):Int:=if Ee M.L2 a=true then 2 else if Ee M.L1 a=true then 1 else 0
theorem Ve{U:List Bool}{x:Int}(hx:0≤x∧x<U.length)(a:Int):Ee (Bm.put U x true) a=if x=a then true else Ee U a:=Bm.V9 U x a true hx
theorem alH{l:List Bool}{y:Int}(h:Ee l y=true):Bm.put l y true=l:=by
 have hr:=NZ h
 obtain⟨i,rfl⟩:=BR hr.1
 rw[Bm.RU true Y]
 exact Bm.set_self Y (by rw[←Bm.U9];exact h)
section
variable{g:Geo}{d:Nv.D}{s:IX}{M:KF}{pA n:Nat}{most:Int}{w:World}
theorem ae3(hE:Dj (M.L pA most) w)(hG:MkG n most M)(a:Int):
 Calls prog 256 [ptr M.pK,.int .i64 a].toArray w fun e w'=>e= .returned (.int .i64 (M.col a))∧Only [] w w':=by
 have HR:=Heap.start hE
 have H:=Heap.nil w
 unfold KF.L at HR
 have h1:∀{W:World},Dj (II M.p1 M.b1 M.A1 M.c1 M.L1) W→Calls prog 124 [pt M.p1,.int .i64 a].toArray W fun e w'=>e= .returned (.bool (Ee M.L1 a))∧Only [] W w':=fun{W} hE=>aeu (p:=M.p1) hG.s1 W hE a
 have h2:∀{W:World},Dj (II M.p2 M.b2 M.A2 M.c2 M.L2) W→Calls prog 124 [pt M.p2,.int .i64 a].toArray W fun e w'=>e= .returned (.bool (Ee M.L2 a))∧Only [] W w':=fun{W} hE=>aeu (p:=M.p2) hG.s2 W hE a
 unfold KF.col
 cases hb2:Ee M.L2 a with
 |true=>
  rw[hb2]at h2
  refine pR ?_
  refine BL H O (h2 ((HR.same H.only).Bl 3 O)) (Qb O) fun W1 H=>jT ?_
  exact⟨rfl,H.only⟩
 |false=>
  rw[hb2]at h2
  cases hb1:Ee M.L1 a with
  |true=>
   rw[hb1]at h1
   refine pR ?_
   refine BL H O (h2 ((HR.same H.only).Bl 3 O)) (Qb O) fun W1 H=>BH O (AO (DC O (dL ?_)))
   refine BI O O8 (iF ?_)
   refine AQ O (BL H O (h1 ((HR.same H.only).Bl 2 O)) (Qb O) fun W1 H=>jT ?_)
   exact⟨rfl,H.only⟩
  |false=>
   rw[hb1]at h1
   refine pR ?_
   refine BL H O (h2 ((HR.same H.only).Bl 3 O)) (Qb O) fun W1 H=>BH O (AO (DC O (dL ?_)))
   refine BI O O8 (iF ?_)
   refine AQ O (BL H O (h1 ((HR.same H.only).Bl 2 O)) (Qb O) fun W1 H=>uO ?_)
   refine uP ?_
   exact⟨rfl,H.only⟩
theorem ajg(hE:Dj (M.L pA most) w)(hG:MkG n most M)(a:Int):
 Calls prog 159 [ptr M.pK,.int .i64 a].toArray w fun e w'=>e= .returned (.tuple #[])∧Heap w (ids (M.L pA most)) (KF.L pA most {M with L1:=Bm.put M.L1 a true,L2:=Bm.put M.L2 a true}) w':=by
 have H:=Heap.start hE
 generalize ids (M.L pA most)=I at*
 unfold KF.L at H⊢
 have h1:=fun{W:World} hE=>adT (p:=M.p1) hG.s1 W hE a
 have h2:=fun{W:World} hE=>adT (p:=M.p2) hG.s2 W hE a
 refine BO 16 func159 O (dL ?_)
 refine BI O O8 (BG H 0 O O O Ig (AQ O (s_call O (h1 (H.Bl 2 O)) (ZO O) ?_)))
 rintro e W1 ⟨rfl,H'⟩
 refine⟨_,rfl,?_⟩
 have H:=H.CX 2 rfl H';clear H';simp only[Bv]at H
 refine AO (jw ?_)
 refine BI O Ry (BG H 0 O O O Ig (AQ O (s_call O (h2 (H.Bl 3 O)) (ZO O) ?_)))
 rintro e W1 ⟨rfl,H'⟩
 refine⟨_,rfl,?_⟩
 have H:=H.CX 3 rfl H';clear H';simp only[Bv]at H
 refine AZ (fin0 O ?_)
 exact⟨rfl,H⟩
theorem anZ(hE:Dj (M.L pA most) w)(hG:MkG n most M)(hm:most≤1000):
 Calls prog 209 [ptr M.pK].toArray w fun e w'=>e= .returned (.tuple #[])∧Heap w (ids (M.L pA most)) (KF.L pA most {M with L1:=List.replicate n false,L2:=List.replicate n false,K:={M.K with xs:=[],missed:=0},again:=false,cur:=n}) w':=by
 have H:=Heap.start hE
 generalize ids (M.L pA most)=I at*
 unfold KF.L at H⊢
 have h1:=fun{W:World} hE=>ahA (p:=M.p1) hG.s1 W hE
 have h2:=fun{W:World} hE=>ahA (p:=M.p2) hG.s2 W hE
 have h3:=fun{W:World} hE=>an8 (s:=M.K) (most:=most) (w:=W) hE (by have:=hG.k;omega)
 rw[hG.l1]at h1
 rw[hG.l2]at h2
 have hs1:=hG.s1.len2 (l':=List.replicate n false) (by rw[Dn,hG.l1])
 have h4:=fun{W:World} hE=>aq0 (p:=M.p1) (b:=M.b1) (A:=M.A1) (c:=M.c1) (l:=List.replicate n false) W hE
 rw[Dn]at h4
 refine BO 28 func209 O (dL ?_)
 refine BI O O8 (BG H 0 O O O Ig (s_call O (h1 (H.Bl 2 O)) (akZ O) ?_))
 rintro e W1 ⟨rfl,H'⟩
 refine⟨_,rfl,?_⟩
 have H:=H.CX 2 rfl H';clear H';simp only[Bv]at H
 refine uj ?_
 refine BI O Ry (BG H 0 O O O Ig (s_call O (h2 (H.Bl 3 O)) (akZ O) ?_))
 rintro e W1 ⟨rfl,H'⟩
 refine⟨_,rfl,?_⟩
 have H:=H.CX 3 rfl H';clear H';simp only[Bv]at H
 refine uj ?_
 refine BI O XI (BG H 0 O O O afe (s_call O (h3 (H.Bl 1 O)) (auQ O) ?_))
 rintro e W1 ⟨rfl,H'⟩
 refine⟨_,rfl,?_⟩
 have H:=H.CX 1 rfl H';clear H';simp only[Bv]at H
 refine AO (DF (Bg O (uo ?_)))
 refine BI O O8 (BG H 0 O O O Ig (BL H O (h4 (H.Bl 2 O)) (as2 O) fun W1 H=>BU O (BI O Xq (tK ?_))))
 clear H;refine axS fun _ H=>?_
 refine BU O (BI O aam (dI ?_))
 clear H;refine axS fun _ H=>?_
 refine AZ (fin0 O ?_)
 exact⟨rfl,H⟩
theorem aes(hE:Dj [grp (TF g d s),grp (M.L s.pA most)] w)(hU:Gn s.bU s.AU s.cU s.U)(hG:MkG s.U.length most M)(hm:most≤1000)(a:Int):
 Calls prog 229 [ptr M.pK,.int .i64 a].toArray w fun e w'=>∃(b:Bool) (M':KF),Tz s.U.length most s.U M M' [a]∧(b=false→M'=M)∧e= .returned (.bool b)∧Heap w (ids (M.L s.pA most)) (M'.L s.pA most) w':=by
 have hDO:=fun{W:World} (h:Only (ids (M.L s.pA most)) w W)=>Heap.start (hE.off h)
 have H:Heap w (ids (M.L s.pA most)) (M.L s.pA most) w:=Heap.start hE.snd
 generalize hI:ids (M.L s.pA most)=I at*
 have XF:=fun{W:World} hE=>abq (g:=g) (s:=s) (w:=W) hE hU a
 have hAd:=fun{W:World} hE=>adT (p:=M.p1) hG.s1 W hE a
 have hk:=hG.k
 unfold KF.L at H⊢
 cases hu:Ee s.U a with
 |false=>
  rw[hu]at XF
  refine qE ?_
  refine BL H O (XF (hDO H.only).drop.ents) (UD O) fun W1 H=>AV (Ib O) (BX O (Df 12 O O (Df 12 O O (Df 12 O O (Df 12 O O (Df 12 O O (Df 12 O O (Df 12 O O (EZ O O (AO (EF O (mX ?_))))))))))))
  exact⟨false,M,(Tz.refl hG fun x hx hu2=>by rw[Bz.1 hx,hu]at hu2;cases hu2),fun _=>rfl,rfl,H⟩
 |true=>
  rw[hu]at XF
  have hr:=NZ hu
  have hr2:0≤a∧a<M.L1.length:=by rw[hG.l1];exact hr
  cases hq:Ee M.L1 a with
  |true=>
   rw[show Bm.has M.L1 a=true from hq,alH hq]at hAd
   simp only[Bool.not_true,MS]at hAd
   refine qE ?_
   refine BL H O (XF (hDO H.only).drop.ents) (UD O) fun W1 H=>fP ?_
   rintro e W1 ⟨rfl,H'⟩
   refine⟨_,rfl,?_⟩
   have H:=H.CX 2 rfl H';clear H';simp only[Bv]at H
   refine Bo 12 O (Ib O) (DW O O (AO (EF O (mX ?_))))
   exact⟨false,M,(Tz.refl hG fun x hx _=>by rw[Bz.1 hx];exact hq),fun _=>rfl,rfl,H⟩
  |false=>
   rw[show Bm.has M.L1 a=false from hq,decide_eq_true hr2]at hAd
   simp only[Bool.not_false,Bool.and_self]at hAd
   have hput:=Ve hr2
   have hs1:=hG.s1.put' a true
   have hl1:(Bm.put M.L1 a true).length=s.U.length:=by rw[Bm.Pv];exact hG.l1
   by_cases h:(M.K.xs.length:Int)<most
   ·have hPu:=fun{W:World} hE=>arT (s:=M.K) (most:=most) (w:=W) hE Y a h
    refine qE ?_
    refine BL H O (XF (hDO H.only).drop.ents) (UD O) fun W1 H=>fP ?_
    rintro e W1 ⟨rfl,H'⟩
    refine⟨_,rfl,?_⟩
    have H:=H.CX 2 rfl H';clear H';simp only[Bv]at H
    refine uf ?_
    rintro e W1 ⟨A,c,rfl,H'⟩
    refine⟨_,rfl,?_⟩
    have H:=H.CX 1 rfl H';clear H';simp only[Bv]at H
    refine eU ?_
    refine AP (iP ?_)
    refine⟨true,{M with L1:=Bm.put M.L1 a true,K:={M.K with A:=A,c:=c,xs:=M.K.xs++ [a]}},⟨⟨hs1,hG.s2,hl1,hG.l2,by simp only[Cj,List.length_singleton];omega,hG.cu⟩,rfl,rfl,fun x hx=>?_,fun x hx _=>?_,fun x hx=>?_,fun x hx=>CO _ hx,fun h=>h⟩,(fun h=>by cases h),rfl,H⟩
    ·show Ee (Bm.put M.L1 a true) x=true
     rw[hput];split
     ·rfl
     ·exact hx
    ·show Ee (Bm.put M.L1 a true) x=true
     rw[hput,if_pos (Bz.1 hx).symm]
    ·replace hx:Ee (Bm.put M.L1 a true) x=true:=hx
     rw[hput]at hx
     by_cases e:a=x
     ·subst e;exact .inr ⟨hu,.inl (Du _ J)⟩
     ·rw[if_neg e]at hx;exact .inl hx
   ·have hPu:=fun{W:World} hE=>arw (s:=M.K) (most:=most) (w:=W) hE Y a h
    refine qE ?_
    refine BL H O (XF (hDO H.only).drop.ents) (UD O) fun W1 H=>fP ?_
    rintro e W1 ⟨rfl,H'⟩
    refine⟨_,rfl,?_⟩
    have H:=H.CX 2 rfl H';clear H';simp only[Bv]at H
    refine uf ?_
    rintro e W1 ⟨mi,rfl,H'⟩
    refine⟨_,rfl,?_⟩
    have H:=H.CX 1 rfl H';clear H';simp only[Bv]at H
    refine AV (Ib O) (AO (EF O (jw ?_)))
    refine BI O Xq (tK ?_)
    clear H;refine axS fun _ H=>?_
    refine AO (AP (iP ?_))
    refine⟨true,{M with L1:=Bm.put M.L1 a true,K:={M.K with missed:=mi},again:=true},⟨⟨hs1,hG.s2,hl1,hG.l2,hk,hG.cu⟩,rfl,rfl,fun x hx=>?_,fun x hx _=>?_,fun x hx=>?_,fun x hx=>hx,fun _=>rfl⟩,(fun h=>by cases h),rfl,H⟩
    ·show Ee (Bm.put M.L1 a true) x=true
     rw[hput];split
     ·rfl
     ·exact hx
    ·show Ee (Bm.put M.L1 a true) x=true
     rw[hput,if_pos (Bz.1 hx).symm]
    ·replace hx:Ee (Bm.put M.L1 a true) x=true:=hx
     rw[hput]at hx
     by_cases e:a=x
     ·subst e;exact .inr ⟨hu,.inr rfl⟩
     ·rw[if_neg e]at hx;exact .inl hx
end
end
end
section
section
open Go.RowKit
theorem Dj.pair{A B B':List FU}{w W:World}(h:Dj [grp A,grp B] w)(H:Heap w (ids B) B' W):Dj [grp A,grp B'] W:=by
 have hA:=h.off H.only
 have hA0:Dj A w:=h.1 (grp A) J
 refine⟨fun E hE=>?_,?_⟩
 ·rcases Dh.1 hE with rfl|hE
  ·exact hA
  ·rw[Bz.1 hE];exact H.ents
 ·rw[Ep,Ep]
  have hnd:=h.2
  rw[Ep,Ep]at hnd
  refine C9.2 ⟨hA.2,by show(ids B'++ []).Nodup;rw[Dl];exact H.nd,fun i hi j hj e=>?_⟩
  subst e
  have hj:i∈ids B':=by
   have:i∈ids B'++ids []:=hj
   simpa [ids]using this
  rcases H.own i hj with h1|h1
  ·exact(C9.1 hnd).2.2 i hi i (by show i∈ids B++_;exact CO _ h1) rfl
  ·have:=(Heap.start hA0).aaQ i hi;omega
theorem Bm.PY.yes{l:List Bool}{a:Nat}{r:Int}(h:Bm.PY l a r true):Ee l r=true∧(a:Int)≤r∧∀x:Int,a≤x→x<r→Ee l x=false:=by
 rcases h with⟨h,_⟩|⟨_,j,rfl,h1,h2,h3⟩
 ·cases h
 ·refine⟨by unfold Ee;rw[decide_eq_true Y,BJ,h2];rfl,Y,fun x x1 x2=>?_⟩
  unfold Ee
  rw[h3 x.toNat Y Y,MS]
theorem Bm.PY.no{l:List Bool}{a:Nat}{r:Int}(h:Bm.PY l a r false):r=0∧∀x:Int,a≤x→Ee l x=false:=by
 rcases h with⟨_,h1,h2⟩|⟨h,_⟩
 ·refine⟨h1,fun x x1=>?_⟩
  unfold Ee
  rw[h2 x.toNat Y,MS]
 ·cases h
structure MkI (U:List Bool) (c:List Int) (M:KF):Prop where
 us:∀x,Ee M.L1 x=true→Ee U x=true
 sm:∀x,Ee M.L2 x=true→Ee M.L1 x=true
 cl:∀x,Ee M.L2 x=true→∀y∈Ob.ptrs c x,Ee U y=true→Ee M.L1 y=true
 cv:∀x,Ee M.L1 x=true→Ee M.L2 x=false→x∈M.K.xs∨M.again=true∨M.cur≤x
theorem MkI.scanned{n:Nat}{most:Int}{U:List Bool}{c:List Int}{M M':KF}{a:Int}(hG:MkG n most M)(us:∀x,Ee M.L1 x=true→Ee U x=true)(sm:∀x,Ee M.L2 x=true→Ee M.L1 x=true)(cl:∀x,Ee M.L2 x=true→∀y∈Ob.ptrs c x,Ee U y=true→Ee M.L1 y=true)
 (cv:∀x,x≠a→Ee M.L1 x=true→Ee M.L2 x=false→x∈M.K.xs∨M.again=true∨M.cur≤x) (ha:Ee M.L1 a=true) (h:Tz n most U {M with L2:=Bm.put M.L2 a true} M' (Ob.ptrs c a)):MkI U c M':=by
 have hr:=NZ ha
 have e2:M'.L2=Bm.put M.L2 a true:=by have:=congrArg KF.L2 h.e;exact this
 have ec:M'.cur=M.cur:=by have:=congrArg KF.cur h.e;exact this
 have hp:∀x,Ee M'.L2 x=if a=x then true else Ee M.L2 x:=fun x=>by rw[e2];exact Ve (by rw[hG.l2,←hG.l1];exact hr) x
 refine⟨fun x hx=>?_,fun x hx=>?_,fun x hx y hy hu=>?_,fun x h1 h2=>?_⟩
 ·rcases h.nw x hx with h1|h1
  ·exact us x h1
  ·exact h1.1
 ·rw[hp]at hx
  by_cases e:a=x
  ·subst e;exact h.up a ha
  ·rw[if_neg e]at hx;exact h.up x (sm x hx)
 ·rw[hp]at hx
  by_cases e:a=x
  ·subst e;exact h.got y hy hu
  ·rw[if_neg e]at hx;exact h.up y (cl x hx y hy hu)
 ·rw[hp]at h2
  by_cases e:a=x
  ·rw[if_pos e]at h2;cases h2
  ·rw[if_neg e]at h2
   rcases h.nw x h1 with h3|⟨_,h3⟩
   ·rcases cv x (fun e2=>e e2.symm) h3 h2 with h4|h4|h4
    ·exact .inl (h.ks x h4)
    ·exact .inr (.inl (h.ag h4))
    ·exact .inr (.inr (by rw[ec];exact h4))
   ·exact h3.imp id .inl
section
variable{g:Geo}{d:Nv.D}{s:IX}{M:KF}{pA n:Nat}{most:Int}{w:World}
theorem akG(hE:Dj [grp (TF g d s),grp (M.L s.pA most)] w)(hU:Gn s.bU s.AU s.cU s.U)(hG:MkG s.U.length most M)(hm:most≤1000)(hW:Ob.Qv d.cache)(hl:d.cache.length≤1000000000)(a:Int)(hh:Ob.hd d.cache a=true):
 Calls prog 257 [ptr M.pK,.int .i64 a].toArray w fun e w'=>∃(M':KF),Tz s.U.length most s.U {M with L2:=Bm.put M.L2 a true} M' (Ob.ptrs d.cache a)∧e= .returned (.tuple #[])∧Heap w (ids (M.L s.pA most)) (M'.L s.pA most) w':=by
 have hDO:=fun{W:World} (h:Only (ids (M.L s.pA most)) w W)=>Heap.start (hE.off h)
 have H:Heap w (ids (M.L s.pA most)) (M.L s.pA most) w:=Heap.start hE.snd
 have h2:=fun{W:World} hE=>adT (p:=M.p2) hG.s2 W hE a
 have hPt:=fun{W:World} hE=>agJ (g:=g) (d:=d) (w:=W) hE hW hl a hh
 have hb:=Ob.QS hW a
 have hll:(Ob.ptrs d.cache a).length≤63:=by unfold Ob.ptrs;rw[Ob.Ub];omega
 have hDv:=fun{W:World} hE=>Yd (g:=g) (s:=s) (w:=W) hE
 unfold KF.L at H
 refine BO 34 func257 O (dL ?_)
 refine BI O Ry (BG H 0 O O O Ig (AQ O (s_call O (h2 (H.Bl 3 O)) (ZO O) ?_)))
 rintro e W1 ⟨rfl,H'⟩
 refine⟨_,rfl,?_⟩
 have H:=H.CX 3 rfl H';clear H';simp only[Bv]at H
 refine uj ?_
 refine BI O XP (BG H 0 O O O PZ (BL H O (hDv (hDO H.only).drop.ents) (ah9 O) fun W1 H=>AQ O (s_call O (hPt ((hDO H.only).Bl 0 O)) (al4 O) ?_)))
 rintro e W1 ⟨QA,qc,rfl,H'⟩
 refine⟨_,rfl,?_⟩
 have H:=H.more H';clear H';simp only[Bv]at H
 refine Dt O (nM ?_)
 refine EM O (AY O (AO (AP (gU ?_))))
 refine xH ?_
 obtain⟨M0,hM0⟩:∃M0:KF,{M with L2:=Bm.put M.L2 a true}=M0:=⟨_,rfl⟩
 have hp0:M0.pK=M.pK:=by rw[←hM0]
 have hG0:MkG s.U.length most M0:=by rw[←hM0];exact⟨hG.s1,hG.s2.put' a true,hG.l1,by rw[Bm.Pv];exact hG.l2,hG.k,hG.cu⟩
 replace H:Heap w (ids (M.L s.pA most)) [grp (KF.L s.pA most {M with L2:=Bm.put M.L2 a true}),_] _:=Heap.afj (A:=KF.L s.pA most {M with L2:=Bm.put M.L2 a true}) (H.order [1,2,3,4,0] rfl rfl)
 rw[hM0]at H
 rw[hM0,←hp0]
 generalize hpl:Ob.ptrs d.cache a=pl at*
 refine EO (fun z f W=>∃(i:Nat) (M1:KF),i≤pl.length∧z=pl.length-i∧Tz s.U.length most s.U M0 M1 (pl.take i)∧f 0=ptr M1.pK∧f 24= .slice QA pl.length qc∧f 25= .int .i64 pl.length∧f 26= .int .i64 i∧Heap w (ids (M.L s.pA most)) [grp (KF.L s.pA most M1),Ec 1 (.slice QA pl.length qc) pl.length (pl.map (Value.int .i64)) 3] W) pl.length ⟨0,M0,Y,rfl,.refl hG0 J,rfl,rfl,rfl,rfl,H⟩ ?_
 clear H
 rintro z f W ⟨i,M1,hi,rfl,hS,f0,f24,f25,f26,H⟩
 obtain⟨f,rfl⟩:=Jj f0 f24 f25 f26
 clear f0 f24 f25 f26
 by_cases hlt:i<pl.length
 ·obtain⟨x,hx⟩:∃x,pl[i]? =some x:=⟨_,Ba hlt⟩
  obtain⟨q,rfl⟩:=H.JO 1 rfl Y
  have hSh:=fun{W:World} hE=>aes (g:=g) (d:=d) (s:=s) (M:=M1) (most:=most) (w:=W) hE hU hS.g hm x
  refine qm ?_
  refine AV (XJ H 1 O O hx FM) (AY O (AO (DF (Bg O (AQ O (s_call O ((hSh (hE.pair (Hr (H.BQ [0] O O))))) (ak3 O) ?_))))))
  rintro e W1 ⟨b,M2,hS2,_,rfl,H'⟩
  refine⟨_,rfl,?_⟩
  have H:=H.CX 0 rfl H';clear H';simp only[Bv]at H
  refine AZ (aS ?_)
  have hS3:=hS.trans hS2
  rw[KT hx]at hS3
  have hpk:M2.pK=M1.pK:=hS2.pk
  refine⟨_,_,?_,rfl,i+1,M2,Y,rfl,hS3,by rw[hpk];rfl,rfl,rfl,rfl,H⟩
  omega
 ·obtain rfl:i=pl.length:=Y
  rw[F9]at hS
  refine aU ?_
  refine fin0 O ?_
  exact⟨M1,hS,rfl,Hr (H.BQ [0] rfl rfl)⟩
theorem ar5(hE:Dj (M.L pA most) w)(hG:MkG n most M)(hn:n≤131072):
 Calls prog 258 [ptr M.pK].toArray w fun e w'=>(∃(r:Int) (ok:Bool),e= .returned (.tuple #[.int .i64 r,.bool ok])∧(ok=true→Ee M.L1 r=true∧Ee M.L2 r=false∧∀x,M.cur≤x→x<r→Ee M.L1 x=true→Ee M.L2 x=true)∧(ok=false→∀x,M.cur≤x→Ee M.L1 x=true→Ee M.L2 x=true))∧Only [] w w':=by
 have HR:=Heap.start hE
 have H:=Heap.nil w
 unfold KF.L at HR
 generalize ids _=I at HR
 have hcu:=hG.cu
 have hN:=fun(x:Int) {W:World} hE=>afz (p:=M.p1) hG.s1 W hE x
 refine BO 37 func258 O (AP (oG ?_))
 refine A8 (A8 ?_)
 refine Gl (fun f W=>∃r ok,Bm.PY M.L1 M.cur.toNat r ok∧f 0=ptr M.pK∧f 4= .int .i64 r∧f 5= .bool ok∧Heap w [] [] W) ?_ ?_
 ·refine G5 mixed ?_;replace H:=H.drew
  refine bg ?_
  refine CZ 2 O O O (fun _ hS=>Cm O O8) trivial (lU ?_)
  refine CZ 6 O O O (fun _ hS=>Cm O aam) trivial ?_
  refine Et 3 7 ?_ ?_
  ·refine CB O (iF ?_)
   refine wE ?_
   refine jl ?_
   refine rY ?_
   refine s_call O ((hN M.cur ((HR.same H.only).Bl 2 O))) (Ze O) ?_
   rintro e W1 ⟨⟨r,ok,rfl,hx⟩,H'⟩
   refine⟨_,rfl,?_⟩
   have H:=H.same H';clear H'
   refine ak ?_
   refine lS ?_
   exact⟨r,ok,hx,rfl,rfl,rfl,H⟩
  ·refine CB O (jl ?_)
   refine lY ?_
   refine iF ?_
   refine rY ?_
   refine s_call O ((hN M.cur ((HR.same H.only).Bl 2 O))) (Ze O) ?_
   rintro e W1 ⟨⟨r,ok,rfl,hx⟩,H'⟩
   refine⟨_,rfl,?_⟩
   have H:=H.same H';clear H'
   refine ak ?_
   refine lS ?_
   exact⟨r,ok,hx,rfl,rfl,rfl,H⟩
 clear H
 rintro f W ⟨r0,ok0,hx0,f0,f4,f5,H⟩
 obtain⟨f,rfl⟩:=KI f0 f4 f5
 clear f0 f4 f5
 refine AX (E8 ?_)
 have hinv:∀(c:Int) (r:Int) (ok:Bool),M.cur≤c→0≤c→(∀x,M.cur≤x→x<c→Ee M.L1 x=true→Ee M.L2 x=true)→Bm.PY M.L1 c.toNat r ok→(ok=true→Ee M.L1 r=true∧M.cur≤r∧∀x,M.cur≤x→x<r→Ee M.L1 x=true→Ee M.L2 x=true)∧(ok=false→∀x,M.cur≤x→Ee M.L1 x=true→Ee M.L2 x=true):=by
  intro c r ok hc hc0 hal hx
  cases ok with
  |true=>
   obtain⟨h1,h2,h3⟩:=hx.yes
   refine⟨fun _=>⟨h1,Y,fun x x1 x2 x3=>?_⟩,fun h=>by cases h⟩
   by_cases hxc:x<c
   ·exact hal x x1 hxc x3
   ·rw[h3 x Y x2]at x3;cases x3
  |false=>
   obtain⟨h1,h2⟩:=hx.no
   refine⟨(fun h=>by cases h),fun _ x x1 x3=>?_⟩
   by_cases hxc:x<c
   ·exact hal x x1 hxc x3
   ·rw[h2 x Y]at x3;cases x3
 refine EO (fun z f W=>∃(r:Int) (ok:Bool),z=(if ok=true then n+1-r.toNat else 0)∧((ok=true→Ee M.L1 r=true∧M.cur≤r∧∀x,M.cur≤x→x<r→Ee M.L1 x=true→Ee M.L2 x=true)∧(ok=false→∀x,M.cur≤x→Ee M.L1 x=true→Ee M.L2 x=true))∧f 0=ptr M.pK∧f 4= .int .i64 r∧f 5= .bool ok∧Heap w [] [] W) _ ⟨r0,ok0,rfl,hinv M.cur r0 ok0 Y hcu.1 (fun x x1 x2=>absurd x2 Y) hx0,rfl,rfl,rfl,H⟩ ?_
 clear H hx0
 rintro z f W ⟨r,ok,hz,hi,f0,f4,f5,H⟩
 obtain⟨f,rfl⟩:=KI f0 f4 f5
 clear f0 f4 f5
 cases ok with
 |false=>
  refine A8 (AP (BX O (AO (eG ?_))))
  refine AP (vG ?_)
  exact⟨⟨0,false,rfl,(fun h=>by cases h),hi.2⟩,H.only⟩
 |true=>
  obtain⟨i1,i2,i3⟩:=hi.1 rfl
  have hr:=NZ i1
  rw[hG.l1]at hr
  rw[if_pos rfl]at hz
  have hHs:∀{W:World},Dj (II M.p2 M.b2 M.A2 M.c2 M.L2) W→Calls prog 124 [pt M.p2,.int .i64 r].toArray W fun e w'=>e= .returned (.bool (Ee M.L2 r))∧Only [] W w':=fun{W} hE=>aeu (p:=M.p2) hG.s2 W hE r
  cases hb:Ee M.L2 r with
  |false=>
   rw[hb]at hHs
   refine A8 (AP (BX O (AO (ng ?_))))
   refine dL ?_
   refine BI O Ry (iF ?_)
   refine AQ O (BL H O (hHs ((HR.same H.only).Bl 3 O)) (Qb O) fun W1 H=>AV (Ib O) (oV ?_))
   refine AQ O (oG ?_)
   refine kL ?_
   refine dS ?_
   exact⟨⟨r,true,rfl,fun _=>⟨i1,hb,i3⟩,fun h=>by cases h⟩,H.only⟩
  |true=>
   rw[hb]at hHs
   refine A8 (AP (BX O (AO (ng ?_))))
   refine dL ?_
   refine BI O Ry (iF ?_)
   refine AQ O (BL H O (hHs ((HR.same H.only).Bl 3 O)) (Qb O) fun W1 H=>AV (Ea O) (AO (jY ?_)))
   refine jw ?_
   refine BI O O8 (iF ?_)
   refine mZ ?_
   refine s_call O ((hN (r+1) ((HR.same H.only).Bl 2 O))) (Ze O) ?_
   rintro e W1 ⟨⟨r2,ok2,rfl,hx⟩,H'⟩
   refine⟨_,rfl,?_⟩
   have H:=H.same H';clear H'
   refine aF ?_
   refine AZ (Dk ?_)
   have hn2:=hinv (r+1) r2 ok2 Y Y (fun x x1 x2 x3=>by
    by_cases e:x=r
    ·rw[e];exact hb
    ·exact i3 x x1 Y x3) hx
   refine⟨_,_,?_,rfl,r2,ok2,rfl,hn2,rfl,rfl,rfl,H⟩
   cases ok2 with
   |false=>rw[if_neg J];omega
   |true=>
    rw[if_pos rfl]
    have:=(hx.yes).2.1
    omega
theorem asK(hE:Dj [grp (TF g d s),grp (M.L s.pA most)] w)(hU:Gn s.bU s.AU s.cU s.U)(hG:MkG s.U.length most M)(hm:most≤1000)(hW:Ob.Qv d.cache)(hl:d.cache.length≤1000000000)(hn:s.U.length≤131072)(hh:∀a,Ee s.U a=true→Ob.hd d.cache a=true)(hI:MkI s.U d.cache M):
 Calls prog 211 [ptr M.pK].toArray w fun e w'=>∃(b:Bool) (M':KF),MkG s.U.length most M'∧MkI s.U d.cache M'∧M'.pK=M.pK∧(b=false→∀x,Ee M'.L1 x=true→Ee M'.L2 x=true)∧e= .returned (.bool b)∧Heap w (ids (M.L s.pA most)) (M'.L s.pA most) w':=by
 have H:Heap w (ids (M.L s.pA most)) (M.L s.pA most) w:=Heap.start hE.snd
 refine BO 48 func211 O (uV ?_)
 refine A8 (E8 (EO (fun z f W=>∃(M1:KF),z=M1.K.xs.length∧MkG s.U.length most M1∧MkI s.U d.cache M1∧M1.pK=M.pK∧f 0=ptr M1.pK∧Heap w (ids (M.L s.pA most)) (M1.L s.pA most) W) _ ⟨M,rfl,hG,hI,rfl,rfl,H⟩ ?_))
 clear H
 rintro z f W ⟨M1,hz,hG1,hI1,hp1,f0,H⟩
 replace hz:=hz.symm
 subst hz
 obtain⟨f,rfl⟩:=aci f0
 clear f0
 have hk:=hG1.k
 have hPo:=fun{W:World} hE=>auh (s:=M1.K) (most:=most) (w:=W) hE Y
 rcases JW M1.K.xs with hx0|⟨ys,x,hxs⟩
 ·have awN:∀{W:World},Dj (M1.K.L most) W→Calls prog 255 [ptr M1.K.p].toArray W fun e w'=>e= .returned (.tuple #[.int .i64 0,.bool false])∧Only [] W w':=fun hE=>(hPo hE).mono fun e w' h=>by
   rcases h with h|⟨xs,x,h,_⟩
   ·exact h.2
   ·rw[hx0]at h;simp at h
  have hGr:=fun{W:World} hE=>ar5 (M:=M1) (pA:=s.pA) (most:=most) (w:=W) hE hG1 hn
  unfold KF.L at H
  refine E8 (dL ?_)
  refine BI O XI (BG H 0 O O O afe (BL H O (awN (H.Bl 1 O)) (apS O) fun W1 H=>nP ?_))
  refine AV (Ib O) (AO (EF O (Eo (CY (alx O (CY (Fv (AX (A8 (AP (Bg O (s_call O ((hGr H.ents)) (auC O) ?_))))))))))))
  rintro e W1 ⟨⟨r,ok,rfl,hr1,hr2⟩,H'⟩
  refine⟨_,rfl,?_⟩
  have H:=H.same H';clear H'
  refine aF ?_
  refine AO (A8 ?_)
  cases ok with
  |true=>
   obtain⟨r1,r2,r3⟩:=hr1 rfl
   have hrr:=NZ r1
   rw[hG1.l1]at hrr
   obtain⟨M2,hM2⟩:∃M2:KF,{M1 with cur:=r+1}=M2:=⟨_,rfl⟩
   have hG2:MkG s.U.length most M2:=by rw[←hM2];exact⟨hG1.s1,hG1.s2,hG1.l1,hG1.l2,hG1.k,by show 0≤r+1∧r+1≤_;omega⟩
   have hp2:M2.pK=M1.pK:=by rw[←hM2]
   have hSc:=fun{W:World} hE=>akG (g:=g) (d:=d) (s:=s) (M:=M2) (most:=most) (w:=W) hE hU hG2 hm hW hl r (hh r (hI1.us r r1))
   refine DF (BX O (AO (EF O (eH ?_))))
   refine dw ?_
   refine BU O (BI O aam (dI ?_))
   clear H;refine axS fun _ H=>?_
   refine AO (A8 ?_)
   change Heap w (ids (M.L s.pA most)) (KF.L s.pA most {M1 with cur:=r+1}) _ at H
   rw[hM2]at H
   rw[←hp2]
   refine DF (Bg O (AQ O (s_call O ((hSc (hE.pair H))) (ap8 O) ?_)))
   rintro e W1 ⟨M3,hS,rfl,H'⟩
   refine⟨_,rfl,?_⟩
   have H:=H.whole H';clear H'
   refine AO (mX ?_)
   have hpk:M3.pK=M2.pK:=hS.pk
   refine⟨true,M3,hS.g,MkI.scanned (a:=r) hG2 ?_ ?_ ?_ ?_ ?_ hS,by rw[hpk,hp2,hp1],(fun h=>by cases h),rfl,H⟩
   ·rw[←hM2];exact hI1.us
   ·rw[←hM2];exact hI1.sm
   ·rw[←hM2];exact hI1.cl
   ·rw[←hM2]
    intro x hxr h1 h2
    refine(hI1.cv x h1 h2).imp id (Or.imp id fun h3=>?_)
    show r+1≤x
    by_cases hlt:x<r
    ·rw[r3 x h3 hlt h1]at h2;cases h2
    ·omega
   ·rw[←hM2];exact r1
  |false=>
   have hall:=hr2 rfl
   cases hag:M1.again with
   |true=>
    rw[hag]at H
    refine DF (BX O (dK ?_))
    refine jW ?_
    refine BI O Xq (BG H 0 O O O Zi (oV ?_))
    refine uo ?_
    refine BI O Xq (tK ?_)
    clear H;refine axS fun _ H=>?_
    refine BU O (BI O aam (dI ?_))
    clear H;refine axS fun _ H=>?_
    refine AO (mX ?_)
    obtain⟨M2,hM2⟩:∃M2:KF,{M1 with again:=false,cur:=0}=M2:=⟨_,rfl⟩
    change Heap w (ids (M.L s.pA most)) (KF.L s.pA most {M1 with again:=false,cur:=0}) _ at H
    rw[hM2]at H
    refine⟨true,M2,by rw[←hM2];exact⟨hG1.s1,hG1.s2,hG1.l1,hG1.l2,hG1.k,by show(0:Int)≤0∧(0:Int)≤_;omega⟩,by rw[←hM2];exact⟨hI1.us,hI1.sm,hI1.cl,fun x h1 _=> .inr (.inr (NZ h1).1)⟩,by rw[←hM2];exact hp1,(fun h=>by cases h),rfl,H⟩
   |false=>
    rw[hag]at H
    refine DF (BX O (dK ?_))
    refine jW ?_
    refine BI O Xq (BG H 0 O O O Zi (dK ?_))
    refine AP (iP ?_)
    refine⟨false,M1,hG1,hI1,hp1,fun _ x h1=>?_,rfl,by unfold KF.L;rw[hag];exact H⟩
    cases h2:Ee M1.L2 x with
    |true=>rfl
    |false=>
     rcases hI1.cv x h1 h2 with h3|h3|h3
     ·rw[hx0]at h3;cases h3
     ·rw[hag]at h3;cases h3
     ·rw[hall x h3 h1]at h2;cases h2
 ·rw[JU]at hxs
  have awx:∀{W:World},Dj (M1.K.L most) W→Calls prog 255 [ptr M1.K.p].toArray W fun e w'=>e= .returned (.tuple #[.int .i64 x,.bool true])∧Heap W (ids (M1.K.L most)) (UN.L {M1.K with xs:=ys} most) w':=fun hE=>(hPo hE).mono fun e w' h=>by
   rcases h with h|⟨xs,y,h,h2,h3⟩
   ·rw[hxs]at h;simp at h
   ·rw[hxs]at h
    obtain⟨rfl,h4⟩:=List.append_inj' h rfl
    injection h4 with h4 _
    subst h4
    exact⟨h2,h3⟩
  unfold KF.L at H
  obtain⟨M2,hM2⟩:∃M2:KF,{M1 with K:={M1.K with xs:=ys}}=M2:=⟨_,rfl⟩
  have hG2:MkG s.U.length most M2:=by rw[←hM2];exact⟨hG1.s1,hG1.s2,hG1.l1,hG1.l2,by have:=hG1.k;rw[hxs,Cj]at this;show(ys.length:Int)≤most;simp at this;omega,hG1.cu⟩
  have hp2:M2.pK=M1.pK:=by rw[←hM2]
  have hCo:=fun{W:World} hE=>ae3 (M:=M2) (pA:=s.pA) (most:=most) (w:=W) hE hG2 x
  refine E8 (dL ?_)
  refine BI O XI (BG H 0 O O O afe (s_call O (awx (H.Bl 1 O)) (apS O) ?_))
  rintro e W1 ⟨rfl,H'⟩
  refine⟨_,rfl,?_⟩
  have H:=H.CX 1 rfl H';clear H';simp only[Bv]at H
  refine nP ?_
  refine eU ?_
  refine A8 ?_
  change Heap w (ids (M.L s.pA most)) (KF.L s.pA most {M1 with K:={M1.K with xs:=ys}}) _ at H
  rw[hM2]at H
  rw[←hp2]
  have hcv:∀y,y≠x→Ee M2.L1 y=true→Ee M2.L2 y=false→y∈M2.K.xs∨M2.again=true∨M2.cur≤y:=by
   rw[←hM2]
   intro y hy h1 h2
   rcases hI1.cv y h1 h2 with h3|h3
   ·rw[hxs]at h3
    rcases Ci.1 h3 with h3|h3
    ·exact .inl h3
    ·exact absurd (Bz.1 h3) hy
   ·exact .inr h3
  by_cases hg:Ee M2.L1 x=true∧Ee M2.L2 x=false
  ·have hc1:M2.col x=1:=by unfold KF.col;rw[hg.1,hg.2];rfl
   rw[hc1]at hCo
   have hu1:Ee s.U x=true:=hI1.us x (by have:=hg.1;rw[←hM2]at this;exact this)
   have hSc:=fun{W:World} hE=>akG (g:=g) (d:=d) (s:=s) (M:=M2) (most:=most) (w:=W) hE hU hG2 hm hW hl x (hh x hu1)
   refine DF (Bg O (AQ O (BL H O (hCo H.ents) (ain O) fun W1 H=>wO ?_)))
   refine eH ?_
   refine s_call O ((hSc (hE.pair H))) (ap8 O) ?_
   rintro e W1 ⟨M3,hS,rfl,H'⟩
   refine⟨_,rfl,?_⟩
   have H:=H.whole H';clear H'
   refine AO (uV ?_)
   refine BM (F8 (Dx (F8 (Dx (dG ?_)))))
   have hpk:M3.pK=M2.pK:=hS.pk
   refine⟨true,M3,hS.g,MkI.scanned (a:=x) hG2 ?_ ?_ ?_ hcv hg.1 hS,by rw[hpk,hp2,hp1],(fun h=>by cases h),rfl,H⟩
   ·rw[←hM2];exact hI1.us
   ·rw[←hM2];exact hI1.sm
   ·rw[←hM2];exact hI1.cl
  ·have hc1:M2.col x≠1:=by
    unfold KF.col
    split
    ·omega
    ·rename_i h1
     split
     ·rename_i h2
      exact absurd ⟨h2,by simpa using h1⟩ hg
     ·omega
   generalize M2.col x=cx at*
   refine DF (Bg O (AQ O (BL H O (hCo H.ents) (ain O) fun W1 H=>AV (D5 O O Y) (AO (DC O (Bj (CS (Dk ?_))))))))
   refine⟨_,_,?_,rfl,M2,rfl,hG2,⟨?_,?_,?_,fun y h1 h2=>?_⟩,by rw[hp2,hp1],rfl,H⟩
   ·rw[hxs,←hM2];simp
   ·rw[←hM2];exact hI1.us
   ·rw[←hM2];exact hI1.sm
   ·rw[←hM2];exact hI1.cl
   ·by_cases e:y=x
    ·subst e;exact absurd ⟨h1,h2⟩ hg
    ·exact hcv y e h1 h2
end
end
end
section
section
open Go.RowKit
structure SwS where
 p:Nat
 bk:Nat
 A:Option Addr
 c:Nat
 gone:List Int
def SwS.L(pA pK:Nat)(z:SwS):List FU:=[blk z.p [ptr pA,ptr pK,.int .i64 z.bk,.slice z.A z.gone.length z.c] 276,Ec 1 (.slice z.A z.gone.length z.c) z.gone.length (z.gone.map (Value.int .i64)) 3]
theorem GK.norm{g:Geo}{d:Nv.D}{s:IX}{c:List Int}{N:Nat}{X:Int→Prop}{w:World}(h:GK c s N X)(hE:Dj (TF g d s) w):GK c s (512*s.n) X:=by
 have H:=(Heap.start hE).Bl 7 rfl
 refine⟨h.hl,h.n2,h.sm,h.hd,h.rn,h.su,h.ul,h.fs,⟨h.fr.keys,h.fr.got,fun i hi=>?_⟩,h.cl,h.us,h.fm⟩
 have H2:=Heap.start H
 unfold ZK at H2
 have h1:=MW H2 2 rfl (i:=i) hi
 have h2:=h.row hi
 unfold xsOf at h2
 omega
theorem atD{l:List Int}(h:l.Nodup){i j:Nat}{a:Int}(hi:l[i]? =some a)(hj:l[j]? =some a):i=j:=by
 obtain⟨i1,i2⟩:=BK.1 hi
 obtain⟨j1,j2⟩:=BK.1 hj
 rcases Nat.lt_trichotomy i j with h1|h1|h1
 ·exact absurd (i2.trans j2.symm) (Hf.1 h i j i1 j1 h1)
 ·exact h1
 ·exact absurd (j2.trans i2.symm) (Hf.1 h j i j1 i1 h1)
section
variable{g:Geo}{d:Nv.D}{m:Nat}{s:IX}{M:KF}{z:SwS}{most:Int}{w:World}
theorem ao7{pA pK:Nat}(hE:Dj (z.L pA pK) w):
 Calls prog 212 [ptr z.p].toArray w fun e w'=>e= .returned (.tuple #[])∧Heap w (ids (z.L pA pK)) (SwS.L pA pK ⟨z.p,1,none,0,[]⟩) w':=by
 have H:=Heap.start hE
 generalize ids (z.L pA pK)=I at*
 unfold SwS.L at H
 refine BO 8 func212 O (DF (uo ?_))
 refine BI O TM (dI ?_)
 clear H;refine axS fun _ H=>?_
 refine BU O (BI O adV (nH ?_))
 clear H;refine axS fun _ H=>?_
 refine AZ (fin0 O ?_)
 exact⟨rfl,((H.BQ [0] rfl rfl).Kr 1 3).order [1,0] rfl rfl⟩
theorem amI(hA:Dj (TF g d s) w)(hE:Dj (z.L s.pA M.pK) w):
 Calls prog 214 [ptr z.p].toArray w fun e w'=>e= .returned (.bool (decide (s.n≤z.bk)))∧Only [] w w':=by
 have HA:=Heap.start hA
 have HR:=Heap.start hE
 have H:=Heap.nil w
 have hLn:=fun{W:World} hE=>am9 (w:=W) (g:=g) (n:=s.n) (pT:=s.pT) (p:=s.ph) (hs:=s.hs) (rs:=s.rs) (c:=s.hc) hE
 unfold SwS.L at HR
 unfold TF IX.L IX.C at HA
 generalize ids _=I at HA
 by_cases h:s.n≤z.bk
 ·rw[decide_eq_true h]
  refine BO 19 func214 O (uV ?_)
  refine A8 (fG ?_)
  refine LH O O (fun _ H=>(by have H2:Heap w I ([_,_]++ [_,_,_,_,_,_]) _:=(HA.same H.only).order [3,4,0,1,2,5,6,7] O O;exact hLn H2.part)) (acz O) ?_
  refine BZ (fun _ H=>GI O O Y) (sD ?_)
  clear H;intro _ H
  refine AX (BM (dG ?_))
  exact⟨rfl,H.only⟩
 ·rw[decide_eq_false h]
  refine BO 19 func214 O (uV ?_)
  refine A8 (fG ?_)
  refine LH O O (fun _ H=>(by have H2:Heap w I ([_,_]++ [_,_,_,_,_,_]) _:=(HA.same H.only).order [3,4,0,1,2,5,6,7] O O;exact hLn H2.part)) (acz O) ?_
  refine BZ (fun _ H=>Fz O O Y) (sD ?_)
  clear H;intro _ H
  refine AX (BM (dG ?_))
  exact⟨rfl,H.only⟩
theorem aol(hA:Dj (TF g d s) w)(hM:Dj (M.L s.pA most) w)(hE:Dj (z.L s.pA M.pK) w)(hU:Gn s.bU s.AU s.cU s.U)(hG:MkG s.U.length most M)(hn:s.U.length≤131072)(b:Nat)(hb:b≤256):
 Calls prog 259 [ptr z.p,.int .i64 b].toArray w fun e w'=>∃(l:List Int) (A:Option Addr) (c:Nat),(∀x∈l,Ee s.U x=true∧M.col x=0)∧l.Nodup∧l.length≤131072∧e= .returned (.slice A l.length c)∧Heap w [] [Ec 1 (.slice A l.length c) l.length (l.map (Value.int .i64)) 3] w':=by
 have HA:=Heap.start hA
 have HM:=Heap.start hM
 have HR:=Heap.start hE
 have H:=(Heap.nil w).Kr 1 3
 have hNx:=fun(x:Int) {W:World} hE=>aqO (g:=g) (s:=s) (w:=W) hE hU x
 unfold SwS.L at HR
 refine BO 49 func259 O (AP (EM O (AO (AP (EM O (AO (AP (AQ O (AV (Ya O O (wI Y)) (AY O (AO (jW ?_))))))))))))
 refine BI O Ul (BG (HR.same H.only) 0 O O O PZ (AQ O (s_call O ((hNx ((b:Int)*512) (HA.same H.only).drop.ents)) (akK O) ?_)))
 rintro e W1 ⟨⟨r0,ok0,rfl,hx0⟩,H'⟩
 refine⟨_,rfl,?_⟩
 have H:=H.same H';clear H'
 refine aF ?_
 refine AO (E8 ?_)
 refine EO (fun q f W=>∃(r:Int) (ok:Bool) (l:List Int) (A:Option Addr) (c:Nat),q=(if ok=true then s.U.length+1-r.toNat else 0)∧(ok=true→Ee s.U r=true∧l.length≤r.toNat∧∀x∈l,x<r)∧l.length≤131072∧(∀x∈l,Ee s.U x=true∧M.col x=0)∧l.Nodup∧f 0=ptr z.p∧f 6= .int .i64 ((b:Int)*512)∧f 7= .int .i64 r∧f 8= .bool ok∧f 5= .slice A l.length c∧Heap w [] [Ec 1 (.slice A l.length c) l.length (l.map (Value.int .i64)) 3] W) _ ⟨r0,ok0,[],none,0,rfl,fun h=>⟨by subst h;exact hx0.yes.1,J,J⟩,J,J,List.nodup_nil,rfl,rfl,rfl,rfl,rfl,H⟩ ?_
 clear H hx0
 rintro q f W ⟨r,ok,l,A,c,hq,hok,hll,hl,hnd,f0,f6,f7,f8,f5,H⟩
 obtain⟨f,rfl⟩:=OJ f0 f6 f7 f8 f5
 clear f0 f6 f7 f8 f5
 cases ok with
 |false=>
  refine A8 (AP (BX O (BX O (Df 21 O O (Df 21 O O (Df 21 O O (Df 21 O O (DW O O (AO (eG ?_))))))))))
  refine AP (Dz O (rW ?_))
  exact⟨l,A,c,hl,hnd,hll,rfl,H⟩
 |true=>
  obtain⟨h1,h2,h3⟩:=hok rfl
  have hr:=NZ h1
  rw[if_pos rfl]at hq
  have hCo:=fun{W:World} hE=>ae3 (M:=M) (pA:=s.pA) (most:=most) (w:=W) hE hG r
  by_cases hlt:r<(b:Int)*512+512
  ·by_cases hc:M.col r=0
   ·rw[hc]at hCo
    refine vC ?_
    refine BL H O (hCo (HM.same H.only).ents) (ain O) fun W1 H=>wO ?_
    refine DF (Dz O (AQ O (jo ?_)))
    clear H;intro _ An cn _ H;simp only[Bv,Nat.reduceAdd]at H
    refine EM O (AZ (CS (AX (qC ?_))))
    rintro e W1 ⟨⟨r2,ok2,rfl,hx⟩,H'⟩
    refine⟨_,rfl,?_⟩
    have H:=H.same H';clear H'
    refine aF ?_
    refine AZ (Dk ?_)
    have hlen:(l++ [r]).length=l.length+1:=by simp
    refine⟨_,_,?_,rfl,r2,ok2,l++ [r],An,cn,rfl,fun h=>?_,Y,fun x hx=>?_,?_,rfl,rfl,rfl,rfl,by rw[hlen];rfl,by rw[hlen];exact H⟩
    ·cases ok2 with
     |false=>rw[if_neg J];omega
     |true=>rw[if_pos rfl];have:=hx.yes.2.1;omega
    ·subst h
     obtain⟨y1,y2,_⟩:=hx.yes
     refine⟨y1,Y,fun x hx=>?_⟩
     rcases Ci.1 hx with hx|hx
     ·have:=h3 x hx;omega
     ·rw[Bz.1 hx];omega
    ·rcases Ci.1 hx with hx|hx
     ·exact hl x hx
     ·rw[Bz.1 hx];exact⟨h1,hc⟩
    ·refine C9.2 ⟨hnd,J,fun x hx y hy e=>?_⟩
     rw[Bz.1 hy]at e
     have:=h3 x hx;omega
   ·generalize M.col r=cr at*
    refine vC ?_
    refine BL H O (hCo (HM.same H.only).ents) (ain O) fun W1 H=>AV (D5 O O Y) (AO (jY ?_))
    refine qC ?_
    rintro e W1 ⟨⟨r2,ok2,rfl,hx⟩,H'⟩
    refine⟨_,rfl,?_⟩
    have H:=H.same H';clear H'
    refine aF ?_
    refine AZ (Dk ?_)
    refine⟨_,_,?_,rfl,r2,ok2,l,A,c,rfl,fun h=>?_,hll,hl,hnd,rfl,rfl,rfl,rfl,rfl,H⟩
    ·cases ok2 with
     |false=>rw[if_neg J];omega
     |true=>rw[if_pos rfl];have:=hx.yes.2.1;omega
    ·subst h
     obtain⟨y1,y2,_⟩:=hx.yes
     refine⟨y1,Y,fun x hx=>?_⟩
     have:=h3 x hx;omega
  ·refine A8 (AP (qp ?_))
   refine Bo 21 O (Di O O Y) (EZ O O (AO (eG ?_)))
   refine AP (Dz O (rW ?_))
   exact⟨l,A,c,hl,hnd,hll,rfl,H⟩
structure Swp (d d':Nv.D) (m:Nat) (s s':IX) (M:KF) (z z':SwS):Prop where
 D:Hst d d' m
 al:GK d'.cache s' (512*s.n) fun _=>False
 e:{s' with hs:=s.hs,S:=s.S,E:=s.E,F:=s.F,FL:=s.FL,U:=s.U}=s
 us:∀x,Ee s'.U x=true→Ee s.U x=true
 kp:∀x,Ee s.U x=true→M.col x≠0→Ee s'.U x=true
 hs:∀b:Nat,s'.hs[b]? =s.hs[b]? ∨(s.hs[b]?.isSome∧s'.hs[b]? =some (0,0,0))
 zp:z'.p=z.p
 zb:1≤z'.bk∧z'.bk≤s.n
 zl:z'.gone.length+131072*z.bk≤z.gone.length+131072*z'.bk
theorem ars(hE:Dj [grp (TF g d s),grp (M.L s.pA most),grp (z.L s.pA M.pK)] w)(hD:Dv d m)(hg:Q5 g m)(hm:m≤100000)(hn:s.n≤100)(hA:GK d.cache s (512*s.n) fun _=>False)(hG:MkG s.U.length most M)(hz:1≤z.bk∧z.bk≤s.n)(hzl:z.gone.length≤100000000):
 Calls prog 213 [ptr z.p].toArray w fun e w'=>∃(d':Nv.D) (s':IX) (z':SwS),Swp d d' m s s' M z z'∧e= .returned (.int .i64 0)∧Heap w (ids [grp (TF g d s),grp (M.L s.pA most),grp (z.L s.pA M.pK)]) [grp (TF g d' s'),grp (M.L s.pA most),grp (z'.L s.pA M.pK)] w':=by
 have H0:=Heap.start hE
 generalize ids [grp (TF g d s),grp (M.L s.pA most),grp (z.L s.pA M.pK)]=I at*
 have hDn:=fun{W:World} hA hE=>amI (g:=g) (d:=d) (s:=s) (M:=M) (z:=z) (w:=W) hA hE
 have hul:=hA.ul
 have hml:8*m=512*s.n:=by rw[←hD.len];exact hA.cl
 by_cases hdn:s.n≤z.bk
 ·rw[decide_eq_true hdn]at hDn
  have H:=H0
  refine BO 63 func213 O (oM ?_)
  refine A8 (AP (Bg O (BL H O (hDn (H.Bl 0 O) (H.Bl 2 O)) (aiu O) fun W1 H=>gG ?_)))
  exact⟨d,s,z,⟨.refl hD,hA,rfl,fun _ h=>h,fun _ h _=>h,fun _=> .inl rfl,rfl,hz,BF _⟩,rfl,H⟩
 rw[decide_eq_false hdn]at hDn
 have hWh:=fun{W:World} hA' hM hE=>aol (g:=g) (d:=d) (s:=s) (M:=M) (z:=z) (most:=most) (w:=W) hA' hM hE hA.su hG Y z.bk (by have:=hA.n2;omega)
 replace H0:Heap w I (z.L s.pA M.pK++ [grp (TF g d s),grp (M.L s.pA most)]) _:=Heap.acn (H0.order [2,0,1] rfl rfl)
 have H:=H0
 clear H0
 simp only[SwS.L,EL,Ey]at H
 refine BO 63 func213 O (oM ?_)
 refine A8 (AP (Bg O (BL H O (hDn (H.Bl 2 O) (H.BQ [0,1] O O).ents) (aiu O) fun W1 H=>dK ?_)))
 refine A8 (AP (uo ?_))
 refine BI O TM (fV ?_)
 refine s_call O (hWh (H.Bl 2 O) (H.Bl 3 O) (H.BQ [0,1] O O).ents) (atW O) ?_
 rintro e W1 ⟨l,LA,lc,hl,hnd,hll,rfl,H'⟩
 refine⟨_,rfl,?_⟩
 have H:=H.more H';clear H';simp only[Bv]at H
 refine Eb O underlying22 (xH ?_)
 have hss:({s with U:=s.U,F:=s.F,FL:=s.FL}:IX)=s:=rfl
 refine EO (fun q f W=>∃(i:Nat) (U:List Bool) (F:Nat→EP) (FL:Vf) (GA:Option Addr) (gc:Nat),i≤l.length∧q=l.length-i∧GK d.cache {s with U:=U,F:=F,FL:=FL} (512*s.n) (fun _=>False)∧(∀x∈l.drop i,Ee U x=true)∧(∀x,Ee U x=true→Ee s.U x=true)∧(∀x,Ee s.U x=true→M.col x≠0→Ee U x=true)∧f 0=ptr z.p∧f 15= .slice LA l.length lc∧f 16= .int .i64 l.length∧f 17= .int .i64 i∧Heap w I [Ec 1 (.slice LA l.length lc) l.length (l.map (Value.int .i64)) 3,blk z.p [ptr s.pA,ptr M.pK,.int .i64 z.bk,.slice GA (z.gone.length+i) gc] 276,Ec 1 (.slice GA (z.gone.length+i) gc) (z.gone.length+i) ((z.gone++l.take i).map (Value.int .i64)) 3,grp (TF g d {s with U:=U,F:=F,FL:=FL}),grp (M.L s.pA most)] W) l.length ⟨0,s.U,s.F,s.FL,z.A,z.c,Y,rfl,hA,fun x hx=>(hl x hx).1,fun _ h=>h,fun _ h _=>h,rfl,rfl,rfl,rfl,by rw[KJ,Dl];exact H⟩ ?_
 clear H
 rintro q f W ⟨i,U,F,FL,GA,gc,hi,rfl,hA1,hdr,hsub,hkp,f0,f15,f16,f17,H⟩
 obtain⟨f,rfl⟩:=Jj f0 f15 f16 f17
 clear f0 f15 f16 f17
 by_cases hlt:i<l.length
 ·obtain⟨x,hx⟩:∃x,l[i]? =some x:=⟨_,Ba hlt⟩
  have hxm:=BP hx
  have hxU:Ee U x=true:=hdr x (BP (show(l.drop i)[0]? =some x by rw[EW,Kt];exact hx))
  obtain⟨q,rfl⟩:=H.JO 0 rfl Y
  have hFr:=fun{W:World} hE=>arG (g:=g) (d:=d) (s:={s with U:=U,F:=F,FL:=FL}) (w:=W) hE hD.U hA1 Y x hxU
  refine qm ?_
  refine AV (XJ H 0 O O hx FM) (AY O (AO (jW ?_)))
  refine BI O Ul (BG H 1 O O O PZ (AQ O (s_call O (hFr (H.Bl 3 O)) (aun O) ?_)))
  rintro e W1 ⟨F2,FL2,hA2,rfl,H'⟩
  refine⟨_,rfl,?_⟩
  have H:=H.CX 3 rfl H';clear H';simp only[Bv]at H
  refine vH ?_
  refine DF (uo ?_)
  refine BI O adV (BG H 1 O O O KQ (AQ O (RN (enc:=(Value.int .i64)) H 2 O O O O O O O Y underlying22 JH O ?_)))
  clear H;intro _ An cn _ H;simp only[Bv,Nat.reduceAdd]at H
  refine BU O (BI O adV (Ik (u:= .slice _ _ _) H 1 O O O O O O OE ?_))
  clear H;refine axS fun _ H=>?_
  refine AZ (aS ?_)
  have hA3:=hA2.norm (H.Bl 3 rfl)
  have hput:=ah8 (NZ hxU)
  refine⟨_,_,?_,rfl,i+1,Bm.put U x false,F2,FL2,_,_,Y,rfl,hA3,fun y hy=>?_,fun y hy=>?_,fun y hy hc=>?_,rfl,rfl,rfl,rfl,by rw[←KT hx,←EK];exact H⟩
  ·omega
  ·have hym:y∈l.drop i:=by rw[←aaK]at hy;exact U5 hy
   rw[hput,if_neg]
   ·exact hdr y hym
   ·rintro rfl
    obtain⟨j,hj⟩:=GX hy
    rw[EW]at hj
    have:=atD hnd hx hj
    omega
  ·rw[hput]at hy
   split at hy
   ·cases hy
   ·exact hsub y hy
  ·rw[hput,if_neg]
   ·exact hkp y hy hc
   ·rintro rfl;exact hc (hl x hxm).2
 ·obtain rfl:i=l.length:=Y
  rw[F9]at H
  have hTr:=fun{W:World} hE=>asv (g:=g) (d:=d) (m:=m) (s:={s with U:=U,F:=F,FL:=FL}) (w:=W) hE hD hg hm hA1 Y z.bk ⟨hz.1,by show z.bk<s.n;omega⟩
  refine aU ?_
  refine AX (A8 (A8 ?_))
  refine Gl (fun f W=>∃(d':Nv.D) (hs':List Ob.H3) (S' E':IL) (F':Nat→EP) (KP:Vf),Hst d d' m∧GK d'.cache {s with U:=U,hs:=hs',S:=S',E:=E',F:=F',FL:=KP} (512*s.n) (fun _=>False)∧(hs'=s.hs∨hs'=s.hs.set z.bk (0,0,0))∧f 0=ptr z.p∧f 7= .int .i64 0∧Heap w I [blk z.p [ptr s.pA,ptr M.pK,.int .i64 z.bk,.slice GA (z.gone.length+l.length) gc] 276,Ec 1 (.slice GA (z.gone.length+l.length) gc) (z.gone.length+l.length) ((z.gone++l).map (Value.int .i64)) 3,grp (TF g d' {s with U:=U,hs:=hs',S:=S',E:=E',F:=F',FL:=KP}),grp (M.L s.pA most)] W) ?_ ?_
  ·refine G5 mixed ?_;replace H:=H.drew
   refine bg ?_
   refine CZ 2 O O O (fun _ hS=>Cm O Ul) trivial (lU ?_)
   refine CZ 6 O O O (fun _ hS=>Cm O TM) trivial ?_
   refine Et 3 7 ?_ ?_
   ·refine CB O (BG H 1 O O O PZ (wE ?_))
    refine BG H 1 O O O FM (rY ?_)
    refine s_call O (hTr (H.Bl 3 O)) (apI O) ?_
    rintro e W1 ⟨v,d',hs',S',E',F',KP,h1,h2,h3,rfl,H'⟩
    refine⟨_,rfl,?_⟩
    have H:=H.CX 3 rfl H';clear H';simp only[Bv]at H
    refine ak ?_
    refine iI ?_
    refine CU (Dp ?_)
    exact⟨d',hs',S',E',F',KP,h1,h2,h3,rfl,rfl,H.drop⟩
   ·refine CB O (BG H 1 O O O FM (lY ?_))
    refine BG H 1 O O O PZ (rY ?_)
    refine s_call O (hTr (H.Bl 3 O)) (apI O) ?_
    rintro e W1 ⟨v,d',hs',S',E',F',KP,h1,h2,h3,rfl,H'⟩
    refine⟨_,rfl,?_⟩
    have H:=H.CX 3 rfl H';clear H';simp only[Bv]at H
    refine ak ?_
    refine iI ?_
    refine CU (Dp ?_)
    exact⟨d',hs',S',E',F',KP,h1,h2,h3,rfl,rfl,H.drop⟩
  clear H
  rintro f W ⟨d',hs',S',E',F',KP,h1,h2,h3,f0,f7,H⟩
  obtain⟨f,rfl⟩:=LZ f0 f7
  clear f0 f7
  have hlen:(z.gone++l).length=z.gone.length+l.length:=Cj
  rw[←hlen]at H
  refine AX (kK ?_)
  refine dL ?_
  refine BI O TM (fV ?_)
  refine dw ?_
  refine BU O (BI O TM (dI ?_))
  clear H;refine axS fun _ H=>?_
  refine AO (uP ?_)
  refine⟨d',{s with U:=U,hs:=hs',S:=S',E:=E',F:=F',FL:=KP},⟨z.p,z.bk+1,GA,gc,z.gone++l⟩,⟨h1,h2,rfl,hsub,hkp,fun b=>?_,rfl,⟨by show 1≤z.bk+1;omega,by show z.bk+1≤s.n;omega⟩,by show(z.gone++l).length+131072*z.bk≤z.gone.length+131072*(z.bk+1);omega⟩,rfl,(Heap.afj (A:=SwS.L s.pA M.pK ⟨z.p,z.bk+1,GA,gc,z.gone++l⟩) H).order [1,2,0] O O⟩
  rcases h3 with rfl|rfl
  ·exact .inl rfl
  ·have hbl:z.bk<s.hs.length:=by rw[hA.hl];omega
   by_cases e:z.bk=b
   ·subst e
    exact .inr ⟨by rw[Ba hbl];rfl,Gf hbl⟩
   ·exact .inl (Ez e)
end
end
end
section
section
open Go.RowKit
theorem agA{xs:List Int}(h:Im.U xs):Ints .u64 xs:=fun z hz=>wf_u64 (h z hz)
theorem aor(a b:List Int)(w:World)(la:a.length=16)(lb:b.length=16)(ha:Im.U a)(hb:Im.U b):
 Calls prog 135 [.agg (a.map (Value.int .u64)).toArray,.agg (b.map (Value.int .u64)).toArray].toArray w fun e w'=>e= .returned (.tuple #[.agg (.int .u64 (chE a b)::(chR a b).map (Value.int .i64)).toArray,.int .i64 (chI a b),.bool (chB a b)])∧Only [] w w':=by
 have dA:=fun w=>(acU a w la (agA ha)).mono fun _ _ h=>(⟨h.1,Only.of_below h.2 []⟩:_∧Only [] _ _)
 have dB:=fun w=>(acU b w lb (agA hb)).mono fun _ _ h=>(⟨h.1,Only.of_below h.2 []⟩:_∧Only [] _ _)
 obtain⟨x0,x1,x2,x3,x4,x5,x6,x7,hx⟩:=Nu (aar a la)
 obtain⟨y0,y1,y2,y3,y4,y5,y6,y7,hy⟩:=Nu (aar b lb)
 rw[hx]at dA
 rw[hy]at dB
 have H:=Heap.nil w
 have h0:∀k,UR a b=k→chI a b=(if k=1 then 1 else 0)∧chB a b=decide (k≠-1):=fun k h=>by rw[←h];exact⟨rfl,rfl⟩
 by_cases ca:dC a=0
 ·by_cases hk:dC b≠0∨Xj b≤Xj a
  ·have k:UR a b=0:=by unfold UR;rw[if_pos ⟨ca,hk⟩]
   rw[(ch0 k).1,(ch0 k).2,hx,(h0 0 k).1,(h0 0 k).2]
   rw[ca]at dA
   generalize Xj a=E at*
   generalize Xj b=E2 at*
   generalize dC b=C at*
   by_cases cb:C=0
   ·subst cb
    have ce:E2≤E:=hk.resolve_left J
    refine BO 41 func135 O (AP (D9 H O O fun p2 _ H=>D9 H O O fun p3 _ H=>Ei H O IQ fun p4 _ H=>pI ?_))
    refine BL H O (dA _) (Wx O) fun W1 H=>gX ?_
    refine Ei H O IQ fun p7 _ H=>jQ ?_
    clear H;refine axS fun _ H=>?_
    refine sH ?_
    refine BL H O (dB _) (Wx O) fun W1 H=>gX ?_
    refine Ei H O IQ fun p9 _ H=>jQ ?_
    clear H;refine axS fun _ H=>?_
    refine lQ ?_
    refine Bo 27 O (GI O O Y) (Bo 24 O (LV (v:= .bool _) O O) (EZ O O (BH O (oV ?_))))
    refine Dw H 1 O O O PD GN (En H 2 O O O O O O O GN ?_)
    clear H;refine axS fun _ H=>?_
    refine wQ ?_
    exact⟨rfl,H.only⟩
   ·refine BO 41 func135 O (AP (D9 H O O fun p2 _ H=>D9 H O O fun p3 _ H=>Ei H O IQ fun p4 _ H=>pI ?_))
    refine BL H O (dA _) (Wx O) fun W1 H=>gX ?_
    refine Ei H O IQ fun p7 _ H=>jQ ?_
    clear H;refine axS fun _ H=>?_
    refine sH ?_
    refine BL H O (dB _) (Wx O) fun W1 H=>gX ?_
    refine Ei H O IQ fun p9 _ H=>jQ ?_
    clear H;refine axS fun _ H=>?_
    refine iZ ?_
    refine AV (D7 O O Y) (BX O (Bo 24 O (Gm O) (Bo 24 O (Jr O O Y) (Bo 24 O (Yq O) (qL ?_)))))
    refine Df 27 O O (Df 27 O O (Bo 24 O (Iz (v:= .bool _) O O) (EZ O O (BH O (oV ?_)))))
    refine Dw H 1 O O O PD GN (En H 2 O O O O O O O GN ?_)
    clear H;refine axS fun _ H=>?_
    refine wQ ?_
    exact⟨rfl,H.only⟩
  ·have cb:dC b=0:=by by_cases h:dC b=0;exact h;exact absurd (.inl h) hk
   have k:UR a b=1:=by unfold UR;rw[if_neg (fun h=>hk h.2),if_pos cb]
   rw[(ch1 k).1,(ch1 k).2,hy,(h0 1 k).1,(h0 1 k).2]
   have ce:Xj a<Xj b:=Int.not_le.1 fun h=>hk (.inr h)
   rw[ca]at dA
   rw[cb]at dB
   generalize Xj a=E at*
   generalize Xj b=E2 at*
   refine BO 41 func135 O (AP (D9 H O O fun p2 _ H=>D9 H O O fun p3 _ H=>Ei H O IQ fun p4 _ H=>pI ?_))
   refine BL H O (dA _) (Wx O) fun W1 H=>gX ?_
   refine Ei H O IQ fun p7 _ H=>jQ ?_
   clear H;refine axS fun _ H=>?_
   refine sH ?_
   refine BL H O (dB _) (Wx O) fun W1 H=>gX ?_
   refine Ei H O IQ fun p9 _ H=>jQ ?_
   clear H;refine axS fun _ H=>?_
   refine lQ ?_
   refine Bo 27 O (Fz O O Y) (Bo 24 O (LV (v:= .bool _) O O) (EZ O O (BH O (AO (DC O (AP (AQ O (pJ ?_))))))))
   refine Dw H 0 O O O PD GN (En H 2 O O O O O O O GN ?_)
   clear H;refine axS fun _ H=>?_
   refine wQ ?_
   exact⟨rfl,H.only⟩
 ·by_cases cb:dC b=0
  ·have k:UR a b=1:=by unfold UR;rw[if_neg (fun h=>ca h.1),if_pos cb]
   rw[(ch1 k).1,(ch1 k).2,hy,(h0 1 k).1,(h0 1 k).2]
   rw[cb]at dB
   generalize Xj a=E at*
   generalize Xj b=E2 at*
   generalize dC a=C at*
   refine BO 41 func135 O (AP (D9 H O O fun p2 _ H=>D9 H O O fun p3 _ H=>Ei H O IQ fun p4 _ H=>pI ?_))
   refine BL H O (dA _) (Wx O) fun W1 H=>gX ?_
   refine Ei H O IQ fun p7 _ H=>jQ ?_
   clear H;refine axS fun _ H=>?_
   refine sH ?_
   refine BL H O (dB _) (Wx O) fun W1 H=>gX ?_
   refine Ei H O IQ fun p9 _ H=>jQ ?_
   clear H;refine axS fun _ H=>?_
   refine oP ?_
   refine AO (DC O (AP (AQ O (pJ ?_))))
   refine Dw H 0 O O O PD GN (En H 2 O O O O O O O GN ?_)
   clear H;refine axS fun _ H=>?_
   refine wQ ?_
   exact⟨rfl,H.only⟩
  ·have k:UR a b= -1:=by unfold UR;rw[if_neg (fun h=>ca h.1),if_neg cb]
   rw[(chn k).1,(chn k).2,(h0 _ k).1,(h0 _ k).2]
   generalize Xj a=E at*
   generalize Xj b=E2 at*
   generalize dC a=C at*
   generalize dC b=C2 at*
   refine BO 41 func135 O (AP (D9 H O O fun p2 _ H=>D9 H O O fun p3 _ H=>Ei H O IQ fun p4 _ H=>pI ?_))
   refine BL H O (dA _) (Wx O) fun W1 H=>gX ?_
   refine Ei H O IQ fun p7 _ H=>jQ ?_
   clear H;refine axS fun _ H=>?_
   refine sH ?_
   refine BL H O (dB _) (Wx O) fun W1 H=>gX ?_
   refine Ei H O IQ fun p9 _ H=>jQ ?_
   clear H;refine axS fun _ H=>?_
   refine oP ?_
   refine AO (DC O (AP (AQ O (dX ?_))))
   refine AO (jY ?_)
   refine AP (AV (FI (atP) O) (En H 2 O O O O O O O GN ?_))
   clear H;refine axS fun _ H=>?_
   refine oG ?_
   refine BM (iY ?_)
   exact⟨rfl,H.only⟩
def Me(gp:Nat)(E:Int)(R:List Int)(k:Int)(V:List Int):List Value:=ptr gp:: .int .u64 E::(R.map (Value.int .i64)++(.int .i64 k::V.map (Value.int .i64)))
theorem agy(gp:Nat)(E r0 r1 r2 r3 r4 r5 r6 r7 k v0 v1 v2 v3 v4 v5 v6 v7:Int):Me gp E [r0,r1,r2,r3,r4,r5,r6,r7] k [v0,v1,v2,v3,v4,v5,v6,v7]=
 [ptr gp,.int .u64 E,.int .i64 r0,.int .i64 r1,.int .i64 r2,.int .i64 r3,.int .i64 r4,.int .i64 r5,.int .i64 r6,.int .i64 r7,.int .i64 k,.int .i64 v0,.int .i64 v1,.int .i64 v2,.int .i64 v3,.int .i64 v4,.int .i64 v5,.int .i64 v6,.int .i64 v7]:=rfl
theorem avm(g:Geo)(d:Nv.D)(w:World)(hE:Dj (Dy g d) w)(hU:Im.U d.cache):
 Calls prog 62 [ptr g.p].toArray w fun e w'=>
  (UR (EN d.cache 64 16) (EN d.cache 128 16)= -1∧e= .returned (.tuple #[.pointer none,.int .i64 23])∧Only [] w w')∨
  (UR (EN d.cache 64 16) (EN d.cache 128 16)≠-1∧∃t,e= .returned (.tuple #[ptr t,.int .i64 0])∧Heap w [] [blk t (Me g.p (chE (EN d.cache 64 16) (EN d.cache 128 16)) (chR (EN d.cache 64 16) (EN d.cache 128 16)) (UR (EN d.cache 64 16) (EN d.cache 128 16)) (chR (EN d.cache 64 16) (EN d.cache 128 16))) 220] w'):=by
 have HR:=Heap.start hE
 have H:=Heap.nil w
 have hR0:=fun w hE=>apQ g d 0 w hE (.inl rfl)
 have hR1:=fun w hE=>apQ g d 1 w hE (.inr rfl)
 have e0:64+64*0=64:=rfl
 have e1:64+64*1=128:=rfl
 rw[e0]at hR0
 rw[e1]at hR1
 have hC:=fun w=>aor _ _ w (Nc d.cache 64 16) (Nc d.cache 128 16) (adL hU 64 16) (adL hU 128 16)
 have hl:=anE _ _ (Nc d.cache 64 16) (Nc d.cache 128 16)
 have hor:=ar1 (EN d.cache 64 16) (EN d.cache 128 16)
 have hI:UR (EN d.cache 64 16) (EN d.cache 128 16)≠-1→chI (EN d.cache 64 16) (EN d.cache 128 16)=UR (EN d.cache 64 16) (EN d.cache 128 16):=fun h=>by
  unfold chI
  rcases hor with h0|h0|h0
  ·rw[h0];rfl
  ·rw[h0];rfl
  ·exact absurd h0 h
 have hB:chB (EN d.cache 64 16) (EN d.cache 128 16)=decide (UR (EN d.cache 64 16) (EN d.cache 128 16)≠-1):=rfl
 generalize EN d.cache 64 16=a at*
 generalize EN d.cache 128 16=b at*
 generalize chE a b=E at*
 generalize chR a b=R at*
 generalize UR a b=K at*
 generalize chB a b=Bq at*
 generalize chI a b=I at*
 obtain⟨r0,r1,r2,r3,r4,r5,r6,r7,rfl⟩:=Nu hl
 simp only[DJ,Ef]at hC
 by_cases hk:K= -1
 ·have hBf:Bq=false:=by rw[hB];simp[hk]
  subst hBf
  refine BO 25 func62 O (AP (Fb O (sZ ?_)))
  refine BL H O (hR0 _ (HR.same H.only).ents) (aiE O) fun W1 H=>Bg O (BL H O (hR1 _ (HR.same H.only).ents) (aiE O) fun W1 H=>BL H O (hC _) (aqb O) fun W1 H=>gX ?_)
  refine jR ?_
  refine Ei H O IQ fun p4 _ H=>jQ ?_
  clear H;refine axS fun _ H=>?_
  refine oG ?_
  refine A8 (AP (BX O (AV (Ib O) (oV ?_))))
  refine Fb O (xA ?_)
  refine Dx (gY ?_)
  exact .inl ⟨hk,rfl,H.only⟩
 ·have hBt:Bq=true:=by rw[hB];simp[hk]
  subst hBt
  rw[hI hk]at hC
  refine BO 25 func62 O (AP (Fb O (sZ ?_)))
  refine BL H O (hR0 _ (HR.same H.only).ents) (aiE O) fun W1 H=>Bg O (BL H O (hR1 _ (HR.same H.only).ents) (aiE O) fun W1 H=>BL H O (hC _) (aqb O) fun W1 H=>gX ?_)
  refine jR ?_
  refine Ei H O IQ fun p4 _ H=>jQ ?_
  clear H;refine axS fun _ H=>?_
  refine oG ?_
  refine ru ?_
  refine Bg O (Dw H 0 O O O PD GN (AQ O (BI O ahU (AV (JY H 0 (vs:=[.int .i64 r0,.int .i64 r1,.int .i64 r2,.int .i64 r3,.int .i64 r4,.int .i64 r5,.int .i64 r6,.int .i64 r7]) O O O O Kz Iw) (AV (FI (ab4 _ _ _ _ _ _ _ _ _ _ _ _ _ _ _ _ _ _ _) O) (D9 H O O fun p24 _ H=>qZ ?_))))))
  exact .inr ⟨hk,_,rfl,H.drops (A:=[_])⟩
theorem aua(v0 v1 v2 v3 v4 v5 v6 v7:Int)(i:Nat)(h:i<8): [v0,v1,v2,v3,v4,v5,v6,v7][i]? =some ([v0,v1,v2,v3,v4,v5,v6,v7].getD i 0):=by
 rw[BN,Ba zU];rfl
theorem av9(t gp:Nat)(E k:Int)(R V:List Int)(a:Int)(w:World)(hE:Dj [blk t (Me gp E R k V) 220] w)(hR:R.length=8)(hV:V.length=8):
 Calls prog 141 [ptr t,.int .i64 a].toArray w fun e w'=>e= .returned (.tuple #[.int .i64 (if 0≤a∧a<8 then V.getD a.toNat 0 else 0),.int .i64 (if 0≤a∧a<8 then 0 else 1)])∧Only [] w w':=by
 have HR:=Heap.start hE
 have H:=Heap.nil w
 by_cases h0:a<0
 ·rw[if_neg Y,if_neg Y]
  refine BO 18 func141 O (AP (kG ?_))
  refine iQ ?_
  refine AV (DI O O Y) (BX O (Df 8 O O (Df 8 O O (EZ O O (oV ?_)))))
  refine nC ?_
  exact⟨rfl,H.only⟩
 by_cases h8:8≤a
 ·rw[if_neg Y,if_neg Y]
  refine BO 18 func141 O (AP (AY O (bV ?_)))
  refine Bo 8 O (Gm O) (Bo 8 O (GI O O Y) (DW O O (oV ?_)))
  refine nC ?_
  exact⟨rfl,H.only⟩
 rw[if_pos Y,if_pos Y]
 obtain⟨i,rfl⟩:=BR (show 0≤a by omega)
 have hi:i<8:=Y
 have hv:(Me gp E R k V)[11+i]? =some (.int .i64 (V.getD i 0)):=by
  obtain⟨r0,r1,r2,r3,r4,r5,r6,r7,rfl⟩:=Nu hR
  obtain⟨v0,v1,v2,v3,v4,v5,v6,v7,rfl⟩:=Nu hV
  have e:Me gp E [r0,r1,r2,r3,r4,r5,r6,r7] k [v0,v1,v2,v3,v4,v5,v6,v7]=[ptr gp,.int .u64 E,.int .i64 r0,.int .i64 r1,.int .i64 r2,.int .i64 r3,.int .i64 r4,.int .i64 r5,.int .i64 r6,.int .i64 r7,.int .i64 k]++ [v0,v1,v2,v3,v4,v5,v6,v7].map (Value.int .i64):=rfl
  rw[e,Em J]
  simp only[Es,Iu,N7,Cb,EH,Nat.reduceAdd]
  rw[aua _ _ _ _ _ _ _ _ i hi];rfl
 refine BO 18 func141 O (AP (AY O (ql ?_)))
 refine BU O (BI O XO (AV (agi O O O Y underlying103 Ji) (BG (HR.same H.only) 0 O O hv FM (nS ?_))))
 exact⟨by rw[BJ],H.only⟩
end
end
section
section
open Go.RowKit
theorem ao9{gp:Nat}{E k:Int}{R V:List Int}(hR:R.length=8)(i:Nat)(hi:i<V.length):(Me gp E R k V)[11+i]? =some (.int .i64 (V.getD i 0)):=by
 unfold Me
 rw[show 11+i=(9+i)+1+1 by omega,E5,E5,Em (by rw[DL];omega),DL,hR,show 9+i-8=i+1 by omega,E5,Cb,Ba hi,BN,Ba hi]
 rfl
theorem anO{gp:Nat}{E k:Int}{R V:List Int}(hR:R.length=8)(i:Nat)(v:Int):(Me gp E R k V).set (11+i) (.int .i64 v)=Me gp E R k (V.set i v):=by
 unfold Me
 rw[show 11+i=(9+i)+1+1 by omega,Bd,Bd,LG _ _ (by rw[DL];omega),DL,hR,show 9+i-8=i+1 by omega,Bd,G7]
theorem awV(t gp:Nat)(E k:Int)(R V:List Int)(a v:Int)(w:World)(hE:Dj [blk t (Me gp E R k V) 220] w)(hR:R.length=8)(hV:V.length=8):
 Calls prog 109 [ptr t,.int .i64 a,.int .i64 v].toArray w fun e w'=>e= .returned (.int .i64 (if 0≤a∧a<8∧0≤v∧v<131072 then 0 else 1))∧Heap w [t] [blk t (Me gp E R k (if 0≤a∧a<8∧0≤v∧v<131072 then V.set a.toNat v else V)) 220] w':=by
 have H0:=Heap.start hE
 have e0:ids [blk t (Me gp E R k V) 220]=[t]:=rfl
 rw[e0]at H0
 have H:=H0
 clear H0 e0
 by_cases h0:a<0
 ·refine vI ?_
  refine qG ?_
  refine Df 9 O O (Df 9 O O (EZ O O (BX O (Df 13 O O (Df 13 O O (EZ O O (BX O (Df 17 O O (Df 17 O O (EZ O O (gG ?_)))))))))))
  exact⟨rfl,H⟩
 by_cases h8:8≤a
 ·refine vI ?_
  refine bV ?_
  refine Bo 9 O (Gm O) (Bo 9 O (GI O O Y) (DW O O (BX O (Df 13 O O (Df 13 O O (EZ O O (BX O (Df 17 O O (Df 17 O O (EZ O O (gG ?_)))))))))))
  exact⟨rfl,H⟩
 by_cases h1:v<0
 ·refine vI ?_
  refine oz ?_
  refine Bo 13 O (DI O O Y) (DW O O (BX O (Df 17 O O (Df 17 O O (EZ O O (gG ?_))))))
  exact⟨rfl,H⟩
 by_cases h2:131072≤v
 ·refine vI ?_
  refine oz ?_
  refine Bo 13 O (Di O O Y) (DW O O (BX O (Bo 17 O (Gm O) (Bo 17 O (GI O O Y) (DW O O (gG ?_))))))
  exact⟨rfl,H⟩
 rw[if_pos Y,if_pos Y]
 obtain⟨i,rfl⟩:=BR (show 0≤a by omega)
 have hv:=ao9 (gp:=gp) (E:=E) (k:=k) hR i (V:=V) Y
 refine BO 27 func109 O (AP (oz ?_))
 refine Bo 13 O (Di O O Y) (DW O O (BX O (Bo 17 O (Gm O) (Bo 17 O (Fz O O Y) (gQ ?_)))))
 refine eH ?_
 refine AQ O (BU O (BI O XO (AV (agi O O O Y underlying103 Ji) (Ik (u:= .int _ _) H 0 O O O O hv O Ji ?_))))
 clear H;refine axS fun _ H=>?_
 refine AO (uP ?_)
 rw[anO hR]at H
 exact⟨rfl,by rw[BJ];exact H⟩
theorem abv(t gp:Nat)(E k:Int)(R V:List Int)(w:World)(hE:Dj [blk t (Me gp E R k V) 220] w)(hR:R.length=8)(hV:V.length=8):
 Calls prog 96 [ptr t].toArray w fun e w'=>e= .returned (.agg (V.map (Value.int .i64)).toArray)∧Only [] w w':=by
 obtain⟨r0,r1,r2,r3,r4,r5,r6,r7,rfl⟩:=Nu hR
 obtain⟨v0,v1,v2,v3,v4,v5,v6,v7,rfl⟩:=Nu hV
 rw[agy]at hE
 have HR:=Heap.start hE
 have H:=Heap.nil w
 refine BO 7 func96 O (AP (Ei H O U0 fun p2 _ H=>uj ?_))
 refine BI O XO (AV (JY (HR.same H.only) 0 (vs:=[.int .i64 v0,.int .i64 v1,.int .i64 v2,.int .i64 v3,.int .i64 v4,.int .i64 v5,.int .i64 v6,.int .i64 v7]) O O O O Kz Iw) (vw ?_))
 clear H;refine axS fun _ H=>?_
 refine AO (BM (abJ O (JB H 0 O O O Kz Iw) ?_))
 exact⟨rfl,H.only⟩
theorem ae2(t gp:Nat)(E k:Int)(R V:List Int)(w:World)(hE:Dj [blk t (Me gp E R k V) 220] w)(hR:R.length=8)(hV:V.length=8):
 Calls prog 63 [ptr t].toArray w fun e w'=>e= .returned (.agg (R.map (Value.int .i64)).toArray)∧Only [] w w':=by
 obtain⟨r0,r1,r2,r3,r4,r5,r6,r7,rfl⟩:=Nu hR
 obtain⟨v0,v1,v2,v3,v4,v5,v6,v7,rfl⟩:=Nu hV
 rw[agy]at hE
 have HR:=Heap.start hE
 have H:=Heap.nil w
 refine BO 8 func63 O (AP (Ei H O U0 fun p2 _ H=>uj ?_))
 refine BI O Nk (AV (Nz O ahU) (AV (JY (HR.same H.only) 0 (vs:=[.int .i64 r0,.int .i64 r1,.int .i64 r2,.int .i64 r3,.int .i64 r4,.int .i64 r5,.int .i64 r6,.int .i64 r7]) O O O O Kz Iw) (vw ?_)))
 clear H;refine axS fun _ H=>?_
 refine AO (BM (abJ O (JB H 0 O O O Kz Iw) ?_))
 exact⟨rfl,H.only⟩
end
end
section
section
open Go.RowKit
theorem av8(E:Int)(R:List Int)(w:World)(hl:R.length=8)(hE:FT E)(hR:∀r∈R,I64 r):
 Calls prog 228 [.agg (.int .u64 E::R.map (Value.int .i64)).toArray].toArray w fun e w'=>e= .returned (.agg ((J3 E R).map (Value.int .u64)).toArray)∧Only [] w w':=
 (ajl E R w hl hE hR).mono fun _ _ h=>⟨h.1,Only.of_below h.2 _⟩
theorem axw(ws:List Int):(ws.map (Value.int .u64)).all (·.oneCell')=true:=by simp[Value.oneCell']
theorem aur{ws:List Int}{k:Nat}(h:k<ws.length):(ws.map (Value.int .u64))[k]? =some (.int .u64 (ws.getD k 0)):=by
 rw[Cb,Ba h,BN,Ba h];rfl
theorem ak0(g:Geo)(d:Nv.D)(m i:Nat)(E:Int)(R:List Int)(w:World)(hE:Dj (Dy g d) w)(hI:Nv.Inv d m)(hg:Q5 g m)(hm:m≤100000)(hi:i=0∨i=1)(hl:R.length=8)(hEp:FT E)(hR:∀r∈R,I64 r):
 Calls prog 164 [ptr g.p,.int .i64 i,.agg (.int .u64 E::R.map (Value.int .i64)).toArray].toArray w fun e w'=>e= .returned (.int .i64 (Nv.wr d m (64+64*i) (J3 E R)).2)∧Heap w (ids (Dy g d)) (Dy g (Nv.wr d m (64+64*i) (J3 E R)).1) w':=by
 have H:=IJ hE
 have hS:=fun w=>adG i w hi
 have XR:=fun w=>av8 E R w hl hEp hR
 have hw:=aby E R
 have hab:64+64*i≤128:=Y
 obtain⟨r0,r1,r2,r3,r4,r5,r6,r7,rfl⟩:=Nu hl
 simp only[DJ,Ef]at XR⊢
 generalize 64+64*i=a at*
 generalize J3 E [r0,r1,r2,r3,r4,r5,r6,r7]=ws at*
 refine BO 54 func164 O (AP (D9 H O O fun p5 _ H=>xK ?_))
 refine BL H O (hS _) (afO O) fun W1 H=>AY O (AO (AP (Dw H 0 O O O PD GN (BL H O (XR _) (auT O) fun W1 H=>Ei H O agI fun p8 _ H=>?_))))
 refine En H 0 O O O O (by rw[DL];exact hw) (axw ws) O QE ?_
 clear H;refine axS fun _ H=>?_
 refine AO (A8 (AP ?_))
 refine Hu O O (J5 H 0 O O (by rw[DL];exact hw) Ti QE) ?_
 refine xH ?_
 have hI0:=fun k=>hI.Ii a ws k
 refine EO (fun z f W=>∃k:Nat,k≤16∧z=16-k∧(Nv.Ii d m a ws (Nv.cnt k)).2=0∧f 0=ptr g.p∧f 7= .int .i64 a∧f 8=ptr p8∧f 18= .agg (ws.map (Value.int .u64)).toArray∧f 19= .int .i64 k∧Heap w (ids (Dy g d)) [blk p8 (ws.map (Value.int .u64)) 217,blk p5 [.int .u64 E,.int .i64 r0,.int .i64 r1,.int .i64 r2,.int .i64 r3,.int .i64 r4,.int .i64 r5,.int .i64 r6,.int .i64 r7] 214,grp (Dy g (Nv.Ii d m a ws (Nv.cnt k)).1)] W) 16 ⟨0,Y,rfl,rfl,rfl,rfl,rfl,rfl,rfl,H⟩ ?_
 clear H
 rintro z f W ⟨k,hk,rfl,hc0,f0,f7,f8,f18,f19,H⟩
 obtain⟨f,rfl⟩:=OJ f0 f7 f8 f18 f19
 clear f0 f7 f8 f18 f19
 by_cases hlt:k<16
 ·have hz:=aur (ws:=ws) (k:=k) Y
  by_cases h8:k%8=0
  ·rw[←Nv.amu k hlt h8]at H hc0
   refine aB ?_
   refine AQ O (lM ?_)
   refine wO ?_
   refine Eo (CY (Fv (AX (DF (dw ?_)))))
   refine AQ O (AZ (Dk ?_))
   refine⟨_,_,?_,rfl,k+1,Y,rfl,hc0,rfl,rfl,rfl,rfl,rfl,H⟩
   omega
  ·obtain⟨ho,hcn⟩:=Nv.aqE k hlt h8
   have hsu:=Nv.VO d m a ws (Nv.cnt k) hc0
   rw[ho,←hcn]at hsu
   have hSt:=fun W hE=>YO g (Nv.Ii d m a ws (Nv.cnt k)).1 m ((a:Int)+(k:Int)) (ws.getD k 0) W hE (hI0 _).ok hm
   rw[←hsu]at hSt
   by_cases hcode:(Nv.Ii d m a ws (Nv.cnt (k+1))).2=0
   ·refine uq ?_
    rintro e W1 ⟨rfl,H'⟩
    refine⟨_,rfl,?_⟩
    have H1:=H.CX 2 rfl H';clear H H';have H:=H1;clear H1;simp only[Bd,Bf]at H
    refine wV ?_
    refine⟨_,_,?_,rfl,k+1,Y,rfl,hcode,rfl,rfl,rfl,rfl,rfl,H⟩
    omega
   ·rw[Nv.agh d m a ws (Nv.cnt (k+1)) (by unfold Nv.cnt;omega) hcode]
    refine uq ?_
    rintro e W1 ⟨rfl,H'⟩
    refine⟨_,rfl,?_⟩
    have H1:=H.CX 2 rfl H';clear H H';have H:=H1;clear H1;simp only[Bd,Bf]at H
    refine AY O (AO (sO ?_))
    exact⟨rfl,Hr H.drop.drop⟩
 ·obtain rfl:k=16:=Y
  have c16:Nv.cnt 16=14:=rfl
  rw[c16]at H hc0
  refine aU ?_
  refine AX (vT ?_)
  refine EO (fun z f W=>∃j:Nat,j≤2∧z=2-j∧(Nv.Ii d m a ws (14+j)).2=0∧f 0=ptr g.p∧f 7= .int .i64 a∧f 8=ptr p8∧f 12= .int .i64 ((8*j:Nat):Int)∧Heap w (ids (Dy g d)) [blk p8 (ws.map (Value.int .u64)) 217,blk p5 [.int .u64 E,.int .i64 r0,.int .i64 r1,.int .i64 r2,.int .i64 r3,.int .i64 r4,.int .i64 r5,.int .i64 r6,.int .i64 r7] 214,grp (Dy g (Nv.Ii d m a ws (14+j)).1)] W) 2 ⟨0,Y,rfl,hc0,rfl,rfl,rfl,rfl,H⟩ ?_
  clear H
  rintro z f W ⟨j,hj,rfl,hc0,f0,f7,f8,f12,H⟩
  obtain⟨f,rfl⟩:=Jj f0 f7 f8 f12
  clear f0 f7 f8 f12
  by_cases hlt2:j<2
  ·have hz:=aur (ws:=ws) (k:=8*j) Y
   have ho:Nv.order.getD (14+j) 0=8*j:=by
    rcases(show j=0∨j=1 by omega)with rfl|rfl<;>rfl
   have hsu:=Nv.VO d m a ws (14+j) hc0
   rw[ho]at hsu
   have hSt:=fun W hE=>YO g (Nv.Ii d m a ws (14+j)).1 m ((a:Int)+((8*j:Nat):Int)) (ws.getD (8*j) 0) W hE (hI0 _).ok hm
   rw[←hsu]at hSt
   by_cases hcode:(Nv.Ii d m a ws (14+j+1)).2=0
   ·refine oI ?_
    rintro e W1 ⟨rfl,H'⟩
    refine⟨_,rfl,?_⟩
    have H1:=H.CX 2 rfl H';clear H H';have H:=H1;clear H1;simp only[Bd,Bf]at H
    refine uZ ?_
    refine⟨_,_,?_,rfl,j+1,Y,rfl,hcode,rfl,rfl,rfl,?_,H⟩
    ·omega
    ·exact congrArg (Value.int .i64) Y
   ·rw[Nv.agh d m a ws (14+j+1) Y hcode]
    refine oI ?_
    rintro e W1 ⟨rfl,H'⟩
    refine⟨_,rfl,?_⟩
    have H1:=H.CX 2 rfl H';clear H H';have H:=H1;clear H1;simp only[Bd,Bf]at H
    refine AY O (AO (sO ?_))
    exact⟨rfl,Hr H.drop.drop⟩
  ·obtain rfl:j=2:=Y
   have c2:14+2=16:=rfl
   rw[c2]at H hc0
   rw[Nv.al8 d m a ws hc0]
   have hP:=fun W hE=>U3 g (Nv.Ii d m a ws 16).1 m a 16 W hE (hI0 _).ok hg hm
   refine iQ ?_
   refine og ?_
   refine eH ?_
   refine s_call O (hP _ (H.Bl 2 O)) (Uz O) ?_
   rintro e W1 ⟨rfl,H'⟩
   refine⟨_,rfl,?_⟩
   have H1:=H.CX 2 rfl H';clear H H';have H:=H1;clear H1;simp only[Bd,Bf]at H
   refine eu ?_
   exact⟨rfl,Hr H.drop.drop⟩
theorem aow(g:Geo)(d:Nv.D)(m:Nat)(w:World)(hE:Dj (Dy g d) w)(hI:Nv.Inv d m)(hg:Q5 g m)(hm:m≤100000):
 Calls prog 102 [ptr g.p].toArray w fun e w'=>e= .returned (.int .i64 (Nv.wr d m 64 (J3 1 [0,0,0,0,0,0,0,0])).2)∧Heap w (ids (Dy g d)) (Dy g (Nv.wr d m 64 (J3 1 [0,0,0,0,0,0,0,0])).1) w':=by
 have H:=IJ hE
 have hW:=fun W hE=>ak0 g d m 0 1 [0,0,0,0,0,0,0,0] W hE hI hg hm (.inl rfl) rfl ⟨Y,Y⟩ (by intro r hr;simp at hr;subst hr;exact⟨Y,Y⟩)
 simp only[DJ,Ef,anq,Kt]at hW
 refine BO 6 func102 O (oM ?_)
 refine AP (Bg O (AV (FI (aoH _) O) (s_call O (hW _ (H.Bl 0 O)) (aff O) ?_)))
 rintro e W1 ⟨rfl,H'⟩
 refine⟨_,rfl,?_⟩
 have H1:=H.CX 0 rfl H';clear H H';have H:=H1;clear H1;simp only[Bd,Bf]at H
 refine eu ?_
 exact⟨rfl,Hr H⟩
end
end
section
section
open Go.RowKit
theorem avl(t:Nat)(g:Geo)(d:Nv.D)(m i:Nat)(E k:Int)(R V:List Int)(w:World)(hE:Dj [blk t (Me g.p E R k V) 220,grp (Dy g d)] w)(hI:Nv.Inv d m)(hg:Q5 g m)(hm:m≤100000)(hi:i=0∨i=1):
 Calls prog 170 [ptr t,.int .i64 i].toArray w fun e w'=>e= .returned (.int .i64 (Nv.wi d m (64+64*i) E).2)∧Heap w (ids [blk t (Me g.p E R k V) 220,grp (Dy g d)]) [blk t (Me g.p E R k V) 220,grp (Dy g (Nv.wi d m (64+64*i) E).1)] w':=by
 have H:=Heap.start hE
 generalize ids [blk t (Me g.p E R k V) 220,grp (Dy g d)]=FF at*
 have hS:=fun w=>adG i w hi
 have hab:64+64*i≤128:=Y
 generalize 64+64*i=a at*
 have h0:(Me g.p E R k V)[0]? =some (ptr g.p):=rfl
 have h1:(Me g.p E R k V)[1]? =some (.int .u64 E):=rfl
 generalize Me g.p E R k V=cs at*
 by_cases c1:Nv.get d.cache a≤E
 ·by_cases c2:Nv.get d.cache ((a:Int)+8)≤E
  ·rw[Nv.au7 d m a E ⟨c1,c2⟩]
   refine BO 58 func170 O (oM ?_)
   refine AP (AQ O (BL H O (hS _) (afO O) fun W1 H=>AY O (AO (lT ?_))))
   refine bZ ?_
   refine Iq 22 O (fun _ H=>YU O O Y) (BZ (fun _ H=>Iz (v:= .bool _) O O) (Iy ?_))
   clear H;intro _ H
   refine AX (EF O (oM ?_))
   refine BM (Dx (aK ?_))
   exact⟨rfl,H⟩
  ·have hno:¬(Nv.get d.cache a≤E∧Nv.get d.cache ((a:Int)+8)≤E):=fun h=>c2 h.2
   refine BO 58 func170 O (oM ?_)
   refine AP (AQ O (BL H O (hS _) (afO O) fun W1 H=>AY O (AO (lT ?_))))
   refine bZ ?_
   refine Iq 22 O (fun _ H=>aaJ O O Y) (BZ (fun _ H=>Iz (v:= .bool _) O O) (Iy ?_))
   clear H;intro _ H
   refine AX (DC O (Bj (AX (A8 (oM ?_)))))
   refine kD ?_
   clear H
   rintro z f W ⟨j,hj,rfl,hc0,f0,f5,f6,H⟩
   obtain⟨f,rfl⟩:=KI f0 f5 f6
   clear f0 f5 f6
   have hI0:=fun k=>hI.Ju a k
   by_cases hlt2:j<2
   ·have hsu:=Nv.VI d m a j hc0
    have ea:(a:Int)+8*(j:Int)=(a:Int)+((8*j:Nat):Int):=Y
    rw[ea]at hsu
    have hSt:=fun W hE=>YO g (Nv.Ju d m a j).1 m ((a:Int)+((8*j:Nat):Int)) 0 W hE (hI0 _).ok hm
    rw[←hsu]at hSt
    by_cases hcode:(Nv.Ju d m a (j+1)).2=0
    ·refine A8 (AP (gK ?_))
     rintro e W1 ⟨rfl,H'⟩
     refine⟨_,rfl,?_⟩
     have H1:=H.CX 1 rfl H';clear H H';have H:=H1;clear H1;simp only[Bd,Bf]at H
     refine uZ ?_
     refine⟨_,_,?_,rfl,j+1,Y,rfl,hcode,rfl,rfl,?_,H⟩
     ·omega
     ·exact congrArg (Value.int .i64) Y
    ·rw[Nv.afB d m a E hno (j+1) Y hcode]
     refine A8 (AP (gK ?_))
     rintro e W1 ⟨rfl,H'⟩
     refine⟨_,rfl,?_⟩
     have H1:=H.CX 1 rfl H';clear H H';have H:=H1;clear H1;simp only[Bd,Bf]at H
     refine AY O (AO (sO ?_))
     exact⟨rfl,H⟩
   ·obtain rfl:j=2:=Y
    rw[Nv.amJ d m a E hno hc0]
    have hP:=fun W hE=>U3 g (Nv.Ju d m a 2).1 m a 16 W hE (hI0 _).ok hg hm
    refine uK ?_
    rintro e W1 ⟨rfl,H'⟩
    refine⟨_,rfl,?_⟩
    have H1:=H.CX 1 rfl H';clear H H';have H:=H1;clear H1;simp only[Bd,Bf]at H
    refine eu ?_
    exact⟨rfl,H⟩
 ·have hno:¬(Nv.get d.cache a≤E∧Nv.get d.cache ((a:Int)+8)≤E):=fun h=>c1 h.1
  refine BO 58 func170 O (oM ?_)
  refine AP (AQ O (BL H O (hS _) (afO O) fun W1 H=>AY O (AO (lT ?_))))
  refine bK ?_
  refine LH O O (fun _ H=>aaM g d a _ (H.Bl 1 O)) (SG O) (ay ?_)
  refine BZ (fun _ H=>Cm O Nk) (BZ (fun _ H=>Nz O LX) (BZ (fun _ H=>DR H 0 O O h1 Gh) (BZ (fun _ H=>aaJ O O Y) (BZ (fun _ H=>Cc (v:= .bool _) O) (mJ ?_)))))
  refine mJ ?_
  refine mJ ?_
  refine mJ ?_
  refine JZ O (Gj 22 Aw O O) (BZ (fun _ H=>LV (v:= .bool _) O O) (Iy ?_))
  clear H;intro _ H
  refine AX (DC O (Bj (AX (A8 (oM ?_)))))
  refine kD ?_
  clear H
  rintro z f W ⟨j,hj,rfl,hc0,f0,f5,f6,H⟩
  obtain⟨f,rfl⟩:=KI f0 f5 f6
  clear f0 f5 f6
  have hI0:=fun k=>hI.Ju a k
  by_cases hlt2:j<2
  ·have hsu:=Nv.VI d m a j hc0
   have ea:(a:Int)+8*(j:Int)=(a:Int)+((8*j:Nat):Int):=Y
   rw[ea]at hsu
   have hSt:=fun W hE=>YO g (Nv.Ju d m a j).1 m ((a:Int)+((8*j:Nat):Int)) 0 W hE (hI0 _).ok hm
   rw[←hsu]at hSt
   by_cases hcode:(Nv.Ju d m a (j+1)).2=0
   ·refine A8 (AP (gK ?_))
    rintro e W1 ⟨rfl,H'⟩
    refine⟨_,rfl,?_⟩
    have H1:=H.CX 1 rfl H';clear H H';have H:=H1;clear H1;simp only[Bd,Bf]at H
    refine uZ ?_
    refine⟨_,_,?_,rfl,j+1,Y,rfl,hcode,rfl,rfl,?_,H⟩
    ·omega
    ·exact congrArg (Value.int .i64) Y
   ·rw[Nv.afB d m a E hno (j+1) Y hcode]
    refine A8 (AP (gK ?_))
    rintro e W1 ⟨rfl,H'⟩
    refine⟨_,rfl,?_⟩
    have H1:=H.CX 1 rfl H';clear H H';have H:=H1;clear H1;simp only[Bd,Bf]at H
    refine AY O (AO (sO ?_))
    exact⟨rfl,H⟩
  ·obtain rfl:j=2:=Y
   rw[Nv.amJ d m a E hno hc0]
   have hP:=fun W hE=>U3 g (Nv.Ju d m a 2).1 m a 16 W hE (hI0 _).ok hg hm
   refine uK ?_
   rintro e W1 ⟨rfl,H'⟩
   refine⟨_,rfl,?_⟩
   have H1:=H.CX 1 rfl H';clear H H';have H:=H1;clear H1;simp only[Bd,Bf]at H
   refine eu ?_
   exact⟨rfl,H⟩
end
end
end Go.Proofs.YtppilhpcmkekbaaGreat
