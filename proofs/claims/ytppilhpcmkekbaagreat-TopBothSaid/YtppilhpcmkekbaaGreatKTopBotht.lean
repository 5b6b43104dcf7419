/- Parts of the proof. -/
import Derived.Test.YtppilhpcmkekbaaGreatKTopBoths
set_option linter.unusedSimpArgs false
set_option linter.unusedVariables false
set_option linter.unusedSectionVars false
set_option maxRecDepth 100000
set_option maxHeartbeats 16000000
namespace Go.Proofs.YtppilhpcmkekbaaGreat
open Go.Proofs.Tryz
section
section
open Go.RowKit
theorem ar7{P:Program}{n:Sz}{f:Nat→Value}{W:World}{dst:Option Tmp}{ty:TypeId}{pos:String}{af:Array Edge}{g:Option (Nat×Bool)}{fn:Go.Fn}{x:Operand}{p:Option Addr}(hx:ev n f x= .pointer p):
 (execOp (ev n f) ⟨dst,.makeFunc fn #[x] #[],ty,pos,af,g⟩).run P W= .ok (.value (.func fn #[.pointer p] #[])) W:=by
 simp only[execOp,Instr.makeFunc,Sem.run_bind,Sem.run_pure,Result.andThen_ok,Fj,DJ,Ef,hx]
theorem ake{α:Type}{enc:α→Value}{size:Nat}{w0 W:World}{F:List Nat}{A:List FU}{LA:Option Addr}{n c:Nat}{xs:List α}{T:TypeId}(H:Heap w0 F [grp A,Ec size (.slice LA n c) n (xs.map enc) T] W):I5 enc W (ids A) LA xs:=
 (Y2 (A:=[grp A]) (B:=[]) H rfl).mono fun i hi=>by simpa [ids,grp]using hi
section
variable{g:Geo}{d:Nv.D}{m n k:Nat}{id E:Int}{hs:List Ob.H3}{R:List Int}{A:Int→Prop}{w:World}
theorem akM(M:Nat→Nat)(hMm:∀c,M c<4)(ar8:n≤100)(hE:Dj (Dy g d) w)(hg:Q5 g m)(hk:KR d m n id hs k E R)(hG:Tr.Good (Ob.pl n d.cache hs) (Ob.ptrs d.cache) R A):
 Calls prog 12 [ptr g.p,.int .i64 3].toArray w fun e w'=>∃d' L h N,Opened d d' m n id hs k E R L h.s N∧F6 d' m n id h∧h.s.M=M∧h.k=k∧h.E=E∧h.R=R∧h.V=R∧h.rg=List.replicate 32 0∧h.ph=0∧e= .returned (.tuple #[ptr h.pH,.int .i64 0])∧
  Heap w (ids (Dy g d)) (h.L g d') w':=by
 have H:=IJ hE
 have hl:=hk.len
 have hn:=hk.n2
 generalize ids (Dy g d)=I at*
 have hOp:=fun{W:World} hE=>arB (g:=g) (w:=W) M hMm hE hg hk hG
 refine BO 63 func12 O (AP (Fb O (sZ ?_)))
 refine s_call O (hOp (H.Bl 0 O)) (axb O) ?_
 rintro e W1 ⟨d',t,L,LA,lc,s,N,hop,hsM,rfl,H'⟩
 refine⟨_,rfl,?_⟩
 have H:=(Hr H).whole H';clear H'
 refine gX ?_
 refine Ei H O aeS fun p6 _ H=>En H 0 O O O O O O O aaW ?_
 clear H;refine axS fun _ H=>?_
 refine vV ?_
 refine A8 ?_
 refine Gl (fun f W=>∃pH hP hS hB hC sP sB sC hA sA,f 1= .int .i64 3∧f 6=ptr p6∧f 8=ptr pH∧Gn hB hA hC (List.replicate d'.cache.length false)∧Gn sB sA sC (List.replicate d'.cache.length false)∧Heap w I [blk pH [ptr g.p,ptr s.pA,ptr t,.int .i64 0,.int .i64 0,.int .i64 0,.int .i64 0,.int .i64 0,.int .i64 0,.int .i64 0,.int .i64 0,.int .i64 0,.int .i64 0,.int .i64 0,.int .i64 0,.int .i64 0,.int .i64 0,.int .i64 0,.int .i64 0,.int .i64 0,.int .i64 0,.int .i64 0,.int .i64 0,.int .i64 0,.int .i64 0,.int .i64 0,.int .i64 0,.int .i64 0,.int .i64 0,.int .i64 0,.int .i64 0,.int .i64 0,.int .i64 0,.int .i64 0,.int .i64 0,ptr hP,.pointer none,ptr sP,.bool false] 111,blk p6 [.int .i64 n,.int .u64 id,.int .i64 n,ptr s.pA,ptr t,.slice LA L.length lc] 115,grp (TF g d' s),blk t (Me g.p E R k R) 220,Ec 1 (.slice LA L.length lc) L.length (L.map (Value.int .i64)) 3,grp (hdE s.pA hP hS hB hA hC (List.replicate d'.cache.length false)),grp (II sP sB sA sC (List.replicate d'.cache.length false))] W) ?_ ?_
 ·have hl':=hop.dev.len
  have hHd:=fun{W:World} hE=>apl g d' s W hE Y
  have hLn:=fun{W:World} hE=>Zw g d' W hE
  have hNw:=fun(W:World)=>bNew d'.cache.length W Y
  refine JQ (A:=[_]) mixed H [0] O ?_;replace H:=H.drew
  refine CZ 0 O O O (fun _ hS=>Cc (v:= .pointer _) O) (H.BQ [0] O O) (CZ 1 O O O (fun _ hS=>Cm O aas) (H.BQ [0] O O) (CZ 2 O O O (fun _ hS=>DR hS 0 O O O PZ) (H.BQ [0] O O) (CZ 3 O O O (fun _ hS=>Cm O anu) (H.BQ [0] O O) (CZ 4 O O O (fun _ hS=>DR hS 0 O O O Y9) (H.BQ [0] O O) (CZ 5 O O O (fun _ hS=>Cm O aas) (H.BQ [0] O O) (CZ 6 O O O (fun _ hS=>DR hS 0 O O O PZ) (H.BQ [0] O O) (CZ 8 O O O (fun _ hS=>Cc (v:= .pointer _) O) (H.BQ [0] O O) (BD 7 O (s_call O (hHd (H.Bl 1 O)) (au6 O) ?_)))))))))
  rintro e W1 ⟨hP,hS,hB,hA,hC,rfl,hs1,H'⟩
  refine⟨_,rfl,?_⟩
  have H:=H.more H';clear H';simp only[Bv]at H
  refine xu ?_
  refine BD 9 O (BL H O (hLn (Heap.Bl (Heap.start (H.Bl 2 O)) 0 O)) (Qq O) fun W1 H=>xu ?_)
  refine BD 10 O (s_call O (hNw _) (alJ O) ?_)
  rintro e W1 ⟨sP,sB,sA,sC,rfl,hs2,H'⟩
  refine⟨_,rfl,?_⟩
  have H:=H.more (A:=[grp _]) (Io H');clear H';simp only[Bv]at H
  refine sF ?_
  refine CZ 11 O O O (fun _ hS=>FI (Zv _ _ _ _ _) O) (H.BQ [2] O O) (BD 12 O (D9 H O O fun p31 _ H=>AZ (BA (H.BQ [3] O O) (CZ 13 O O O (fun _ hS=>DK (v:= .pointer _) O) (H.BQ [3] O O) (CU (Dp ?_))))))
  first|exact⟨p31,hP,hS,hB,hC,sP,sB,sC,hA,sA,rfl,rfl,rfl,hs1,hs2,H.order [0,3,4,5,6,2,1] rfl rfl⟩|exact⟨p31,hP,hS,hB,hC,sP,sB,sC,hA,sA,rfl,rfl,rfl,hs1,hs2,H.order [0,3,4,5,6,1,2] rfl rfl⟩
 clear H
 rintro f W ⟨pH,hP,hS,hB,hC,sP,sB,sC,hA,sA,f1,f6,f8,hs1,hs2,H⟩
 obtain⟨f,rfl⟩:=KI f1 f6 f8
 clear f1 f6 f8
 have hl':=hop.dev.len
 have hCy:=fun{fn:Nat} {B C:Array Value} {W:World} hE=>atV g d' s 3 fn B C W hE Y Y
 have hh:∀a,Ee s.U a=true→Ob.hd d'.cache a=true:=fun a ha=>(Ob.OW (hop.al.us a ha)).2.2
 have hLb:∀a∈L,512≤a∧a<512*(n:Int):=fun a ha=>by have:=Ob.OW (hop.live.pl a ha);omega
 have hLn:L.length≤512*n:=Tr.PU _ _ hop.live.nd fun a ha=>by have:=hLb a ha;omega
 refine AX (AP (Bg O (BI O aas (BG H 1 O O O PZ (AQ O (Bg O (AV (ar7 O) (s_call O (hCy (H.Bl 2 O)) (axk O) ?_))))))))
 rintro e W1 ⟨pC,pW,pK,pS,p1,b1,c1,p2,b2,c2,A1,A2,rfl,hc1,hc2,H'⟩
 refine⟨_,rfl,?_⟩
 have H:=H.more H';clear H';simp only[Bv]at H
 refine BU O (BI O Yn (Ik (u:= .pointer _) H 3 O O O O O O atJ ?_))
 clear H;refine axS fun _ H=>?_
 refine AO (A8 ?_)
 refine Gl (fun f W=>∃hl2,Ov d' s (List.replicate d'.cache.length false) hl2 L∧f 6=ptr p6∧f 8=ptr pH∧Heap w I [blk pH [ptr g.p,ptr s.pA,ptr t,.int .i64 0,.int .i64 0,.int .i64 0,.int .i64 0,.int .i64 0,.int .i64 0,.int .i64 0,.int .i64 0,.int .i64 0,.int .i64 0,.int .i64 0,.int .i64 0,.int .i64 0,.int .i64 0,.int .i64 0,.int .i64 0,.int .i64 0,.int .i64 0,.int .i64 0,.int .i64 0,.int .i64 0,.int .i64 0,.int .i64 0,.int .i64 0,.int .i64 0,.int .i64 0,.int .i64 0,.int .i64 0,.int .i64 0,.int .i64 0,.int .i64 0,.int .i64 0,ptr hP,ptr pC,ptr sP,.bool false] 111,grp (TF g d' s),blk t (Me g.p E R k R) 220,grp (hdE s.pA hP hS hB hA hC hl2),blk pC (cyC s.pA pK pW (.func (.func 55) #[ptr pH] #[]) 0 0 0) 199,grp (II sP sB sA sC (List.replicate d'.cache.length false)),blk pW [ptr s.pA,ptr pK,.int .i64 s.n,.slice none 0 0] 276,grp (mkE s.pA pK pS p1 b1 c1 p2 b2 c2 A1 A2 (List.replicate d'.cache.length false) (List.replicate d'.cache.length false) [.slice none 0 0,.int .i64 3,.int .i64 0] false d'.cache.length),blk p6 [.int .i64 n,.int .u64 id,.int .i64 n,ptr s.pA,ptr t,.slice LA L.length lc] 115,Ec 1 (.slice LA L.length lc) L.length (L.map (Value.int .i64)) 3] W) ?_ ?_
 ·have hRs:=fun{W:World} hE hQ=>adx (g:=g) (d:=d') (s:=s) (w:=W) (pH:=hP) (pS:=hS) (b:=hB) (A:=hA) (c:=hC) (l:=List.replicate d'.cache.length false) hE hop.dev.dv.U Y hop.al.su hh hs1 LA L.length lc L hQ rfl Y (fun a ha=>⟨by have:=hLb a ha;omega,by have:=hLb a ha;omega⟩)
  rw[Dn]at hRs
  refine JQ (A:=[_,_]) mixed H [3,4] O ?_;replace H:=H.drew
  refine CZ 0 O O O (fun _ hS=>Cc (v:= .pointer _) O) (H.BQ [3,4] O O) (CZ 1 O O O (fun _ hS=>DT O) (H.BQ [3,4] O O) (CZ 2 O O O (fun _ hS=>Cm O XD) (H.BQ [3,4] O O) (CZ 3 O O O (fun _ hS=>DR hS 0 O O O abB) (H.BQ [3,4] O O) (CZ 4 O O O (fun _ hS=>Cm O aaf) (H.BQ [3,4] O O) (CZ 5 O O O (fun _ hS=>DR hS 1 O O O KQ) (H.BQ [3,4] O O) (BD 6 O (s_call O (hRs (H.BQ [5,8] O O).ents (ake (H.BQ [8,7] O O))) (aq4 O) ?_)))))))
  rintro e W1 ⟨hl2,hst,rfl,H'⟩
  refine⟨_,rfl,?_⟩
  have H:=H.CX 8 rfl H';clear H';simp only[Bv]at H
  refine AZ (BA (H.BQ [3,4] O O) (CU (Dp ?_)))
  exact⟨hl2,hst,rfl,rfl,H.order [3,5,6,8,0,9,1,2,4,7] rfl rfl⟩
 clear H
 rintro f W ⟨hl2,hst,f6,f8,H⟩
 obtain⟨f,rfl⟩:=LZ f6 f8
 clear f6 f8
 refine AX (A8 (AP (BI O aaf (BG H 8 O O O KQ (Eb O underlying22 (xH ?_))))))
 have awO:=hs2
 have axH:L.length≤131072:=Y
 refine EO (fun z f W=>∃(i:Nat) (l1:List Bool),i≤L.length∧z=L.length-i∧Gn sB sA sC l1∧f 8=ptr pH∧f 49= .slice LA L.length lc∧f 50= .int .i64 L.length∧f 51= .int .i64 i∧Heap w I [blk pH [ptr g.p,ptr s.pA,ptr t,.int .i64 0,.int .i64 0,.int .i64 0,.int .i64 0,.int .i64 0,.int .i64 0,.int .i64 0,.int .i64 0,.int .i64 0,.int .i64 0,.int .i64 0,.int .i64 0,.int .i64 0,.int .i64 0,.int .i64 0,.int .i64 0,.int .i64 0,.int .i64 0,.int .i64 0,.int .i64 0,.int .i64 0,.int .i64 0,.int .i64 0,.int .i64 0,.int .i64 0,.int .i64 0,.int .i64 0,.int .i64 0,.int .i64 0,.int .i64 0,.int .i64 0,.int .i64 0,ptr hP,ptr pC,ptr sP,.bool false] 111,grp (TF g d' s),blk t (Me g.p E R k R) 220,grp (hdE s.pA hP hS hB hA hC hl2),blk pC (cyC s.pA pK pW (.func (.func 55) #[ptr pH] #[]) 0 0 0) 199,grp (II sP sB sA sC l1),grp [blk pW [ptr s.pA,ptr pK,.int .i64 s.n,.slice none 0 0] 276,grp (mkE s.pA pK pS p1 b1 c1 p2 b2 c2 A1 A2 (List.replicate d'.cache.length false) (List.replicate d'.cache.length false) [.slice none 0 0,.int .i64 3,.int .i64 0] false d'.cache.length)],Ec 1 (.slice LA L.length lc) L.length (L.map (Value.int .i64)) 3] W) L.length ⟨0,_,Y,rfl,awO,rfl,rfl,rfl,rfl,(Heap.afj (H.BQ [6,7,0,1,2,3,4,5,9] O O:Heap w I ([_,_]++ [_,_,_,_,_,_,_]) _)).order [1,2,3,4,5,6,0,7] O O⟩ ?_
 clear H
 rintro z f W ⟨i,l1,hi,rfl,hs3,f8,f49,f50,f51,H⟩
 by_cases hlt:i<L.length
 ·obtain⟨x,hx⟩:∃x,L[i]? =some x:=⟨_,Ba hlt⟩
  obtain⟨q,rfl⟩:=H.JO 7 rfl Y
  have hAd:=fun{W:World} hE=>adT (p:=sP) hs3 W hE x
  obtain⟨f,rfl⟩:=Jj f8 f49 f50 f51
  clear f8 f49 f50 f51
  refine qm ?_
  refine AV (XJ H 7 O O hx FM) (AY O (AO (jw ?_)))
  refine BI O adD (BG H 0 O O O Ig (AQ O (s_call O (hAd (H.Bl 5 O)) (ZO O) ?_)))
  rintro e W1 ⟨rfl,H'⟩
  refine⟨_,rfl,?_⟩
  have H:=H.CX 5 rfl H';clear H';simp only[Bv]at H
  refine AZ (aS ?_)
  exact⟨_,_,Y,rfl,i+1,_,Y,rfl,hs3.put' _ _,rfl,rfl,rfl,rfl,H⟩
 ·obtain⟨f,rfl⟩:=Jj f8 f49 f50 f51
  clear f8 f49 f50 f51
  refine oh ?_
  refine Bg O (qZ ?_)
  have H2:Heap w I ([_,_]++ [_,_,_,_,_,_]) _:=Heap.acn (H.BQ [6,0,1,2,3,4,5] rfl rfl)
  have H3:Heap w I ([_,_,_,_]++ [_,_,_,_,_,_,_]) _:=Heap.acn (H2.order [1,0,2,3,4,5,6,7] rfl rfl)
  have H4:Heap w I [_,_,_,_,_,_,_,_,_,_,_,_,_] _:=((H3.Kr 1 3).Kr 1 3).order [6,0,3,1,2,4,5,7,8,9,10,11,12] rfl rfl
  clear H H2 H3
  have H5:=Heap.afj (A:=SwS.L s.pA pK ⟨pW,s.n,none,0,[]⟩) (L:=[_,_,_,_,_,_,_,_,_,_,_]) H4
  clear H4
  have H6:=Heap.afj (A:=UN.L ⟨pS,none,0,[],0⟩ 3) (L:=[_,_,_,_,_,_,_,_,_,_]) (H5.order [1,2,0,3,4,5,6,7,8,9,10,11] rfl rfl)
  clear H5
  have H7:=Heap.afj (A:=KF.L s.pA 3 ⟨pK,p1,b1,c1,p2,b2,c2,A1,A2,List.replicate d'.cache.length false,List.replicate d'.cache.length false,⟨pS,none,0,[],0⟩,false,d'.cache.length⟩) (L:=[_,_,_,_,_,_,_]) (H6.order [2,0,3,4,1,5,6,7,8,9,10] rfl rfl)
  clear H6
  have hal:=hop.al.norm (H7.Bl 3 rfl)
  have hsn:=hop.sn
  rw[hsn]at hal
  have hrl:(List.replicate d'.cache.length false).length=512*n:=by rw[Dn];exact hl'
  refine⟨d',L,⟨s,pH,t,k,E,R,R,List.replicate 32 0,hP,hS,hB,hC,hA,hl2,pC,sP,sB,sC,sA,l1,⟨pK,p1,b1,c1,p2,b2,c2,A1,A2,List.replicate d'.cache.length false,List.replicate d'.cache.length false,⟨pS,none,0,[],0⟩,false,d'.cache.length⟩,⟨pW,s.n,none,0,[]⟩,0,0,0⟩,N,hop,⟨by rw[hop.sh];exact hop.dev,hal,hsn,ar8,hk.R8,Dn,fun x hx=>by rw[Hq hx];omega,hs1.len2 hst.len,by rw[hst.len];exact hrl,hs3,⟨hc1,hc2,hrl,hrl,by show((0:Nat):Int)≤3;omega,by show 0≤(d'.cache.length:Int)∧(d'.cache.length:Int)≤_;omega⟩,⟨by show 1≤s.n;omega,by show s.n≤n;omega⟩,Jh _⟩,hsM,rfl,rfl,rfl,rfl,rfl,rfl,rfl,H7.order [2,3,4,5,6,7,0,1] O O⟩
end
end
end
section
section
open Go.RowKit
theorem acG{P:Int→Bool}{pt:Int→List Int}:Tr.Good P pt zr8 (fun _=>False):=⟨fun r hr=> .inl (by simpa [zr8]using hr),fun a h=>h.elim⟩
structure amy (d:Nv.D) (m n:Nat) (id:Int) (h:Fq):Prop where
 ok:F6 d m n id h
 ph:h.ph=0
 k:h.k=0
 E:h.E=1
 R:h.R=zr8
 V:h.V=zr8
 rg:h.rg=List.replicate 32 0
 us:∀a,Ee h.s.U a=false
 cl:∀j,UU d j=false
 hs:h.s.hs=List.replicate n (0,0,0)
theorem apH(M:Nat→Nat)(hMm:∀c,M c<4)(n:Nat)(id:Int)(hn:2≤n∧n≤100)(hid:Ui id)(w:World):
 Calls prog 7 [.agg [.int .i64 n,.int .u64 id,.int .i64 3].toArray].toArray w fun e w'=>∃(g:Geo) (d:Nv.D) (h:Fq),Q5 g (64*n)∧amy d (64*n) n id h∧h.s.M=M∧e= .returned (.tuple #[ptr h.pH,.int .i64 0])∧Heap w [] (h.L g d) w':=by
 have H:=Heap.nil w
 have hGR:=fun(W:World)=>agR (n:Int) W Y
 rw[Su.F7 n Y Y]at hGR
 have hGW:=fun(W:World)=>abL (n:Int) W Y
 have hNw:=fun(W:World)=>nNew ((n:Int)*512) W Y
 have e1:(((n:Int)*512).toNat+7)/8=64*n:=Y
 rw[e1]at hNw
 refine BO 29 func7 O (AP (D9 H O O fun p1 _ H=>Fb O (AY O (AO (AP (BI O ar4 (fV ?_)))))))
 refine AV (FI (YT _) O) (Ei H O afn fun p4 _ H=>En H 0 O O O O O O O He ?_)
 clear H;refine axS fun _ H=>?_
 refine AO (A8 (AP (uG ?_)))
 refine BL H O (hGR _) (asw O) fun W1 H=>eU ?_
 refine AP (uG ?_)
 refine BL H O (hGW _) (am1 O) fun W1 H=>s_call O (hNw _) (axm O) ?_
 rintro e W1 ⟨g,rfl,hg,H'⟩
 refine⟨_,rfl,?_⟩
 have H:=H.more (A:=[grp _]) (Io H');clear H';simp only[Bv]at H
 refine Fb O (AO (A8 (A8 ?_)))
 obtain⟨d0,hd0⟩:∃X,Nv.load (List.replicate (8*(64*n)) 0) (64*n)=X:=⟨_,rfl⟩
 have hD0:Dv d0 (64*n):=by
  rw[←hd0]
  exact Dv.load J fun x hx=>by rw[Hq hx];omega
 have hz0:∀x,Nv.get d0.cache x=0:=fun x=>by rw[←hd0];exact alX _ _ x
 have hc0:∀j,UU d0 j=false:=fun j=>by rw[←hd0];exact afg _ _ j
 rw[hd0]at H
 clear hd0 hNw
 have hF:=fun{W:World} hE=>aly (g:=g) (d:=d0) (m:=64*n) (n:=n) (w:=W) hE hD0 hg rfl ⟨hn.1,Y⟩ id hid
 refine DF (Bg O (BI O arh (BG H 2 O O O Gh (s_call O (hF (H.Bl 0 O)) (axy O) ?_))))
 rintro e W1 ⟨d1,d2,d3,y1,y2,y3,rfl,H'⟩
 refine⟨_,rfl,?_⟩
 have H:=H.CX 0 rfl H';clear H';simp only[Bv]at H
 refine vH ?_
 refine A8 ?_
 obtain⟨hk,hcl,hzz⟩:=KR.format rfl ⟨hn.1,Y⟩ hid hz0 hc0 y1 y2 y3
 have hO:=fun{W:World} hE=>akM (g:=g) (d:=d3) (m:=64*n) (n:=n) (k:=0) (id:=id) (E:=1) (hs:=List.replicate n (0,0,0)) (R:=zr8) (w:=W) M hMm hn.2 hE hg hk acG
 refine DF (Bg O (BI O arI (BG H 2 O O O FM (s_call O (hO (H.Bl 0 O)) (au' O) ?_))))
 rintro e W1 ⟨d4,L,h,N,hop,hok,hsM,q1,q2,q3,q4,q5,q6,rfl,H'⟩
 refine⟨_,rfl,?_⟩
 have H:=(Heap.acn (H.CX 0 rfl H'));clear H'
 refine vO ?_
 refine CV O O (qZ ?_)
 have hL:L=[]:=YF.2 fun a ha=>hop.live.le _ acG a ha
 have hhs:h.s.hs=List.replicate n (0,0,0):=by
  rw[hop.sh,hL]
  apply JK (by rw[Qi])
  intro b b1 b2
  have hbl:b<(List.replicate n ((0,0,0):Ob.H3)).length:=by simpa using b2
  have:=VY ([]:List Int) hbl
  rw[Ba b1]at this
  injection this with this
  rw[this,if_neg J];simp
 exact⟨g,d4,h,hg,⟨hok,q6,q1,q2,q3,q4,q5,fun a=>by rw[hop.us,hL];exact decide_eq_false J,fun j=>hop.k j (hcl j),hhs⟩,hsM,rfl,H.drops⟩
end
end
section
section
open Go.RowKit
theorem aiY{α:Type}{enc:α→Value}{size:Nat}{w0 W:World}{F:List Nat}{L:List FU}{LA:Option Addr}{n c:Nat}{xs:List α}{T:TypeId}(H:Heap w0 F (Ec size (.slice LA n c) n (xs.map enc) T::L) W):I5 enc W (ids L) LA xs:=
 Y2 (A:=L) (B:=[]) (H.perm (OH (l₁:=[_]) (l₂:=L))) rfl
theorem I5.grp{α:Type}{enc:α→Value}{W:World}{A L:List FU}{X:Option Addr}{xs:List α}(h:I5 enc W (ids (Go.Proofs.YtppilhpcmkekbaaGreat.grp A::L)) X xs):I5 enc W (ids A) X xs:=fun h0=>by
 obtain⟨b,o,e,hn,hr⟩:=h h0
 exact⟨b,o,e,fun hm=>hn (by rw[Ep];exact CO _ hm),hr⟩
section
variable{g:Geo}{d:Nv.D}{m n:Nat}{id:Int}{h:Fq}{w:World}
theorem aoV(hE:Dj (h.L g d) w)(hO:F6 d m n id h)(hrg:∀x∈h.rg,Rq x):
 Calls prog 29 [ptr h.pH].toArray w fun e w'=>∃(l:List Bool) (A:Option Addr) (c:Nat),Ov d h.s (List.replicate d.cache.length false) l (h.rg.filter (· ≠0)++h.V)∧e= .returned (.slice A (Bm.elems l).length c)∧Only [] w w':=by
 have HR:=Heap.start hE
 have H:=Heap.nil w
 have hdl:=hO.dev.len
 have hn:=hO.n40
 have hsn:=hO.sn
 have hW:=hO.dev.dv.U
 have h32:=hO.r32
 have hWk:=fun{W:World} hE=>abv h.t g.p h.E h.k h.R h.V W hE hO.dev.R8.1 hO.V8.1
 obtain⟨v0,v1,v2,v3,v4,v5,v6,v7,hV8⟩:=Nu hO.V8.1
 have hVm:(h.V.map (Value.int .i64))=[.int .i64 v0,.int .i64 v1,.int .i64 v2,.int .i64 v3,.int .i64 v4,.int .i64 v5,.int .i64 v6,.int .i64 v7]:=by rw[hV8];rfl
 rw[hVm]at hWk
 have hNw:=fun{W:World} hE=>apl g d h.s W hE Y
 have hAl:=fun{W:World} hE=>aqm (w:=W) (b:=h.pH) (p:=g.p) (pA:=h.s.pA) (t:=h.t) (Og:=h.hP) (pC:=h.pC) (Oi:=h.sP) (R:=h.rg) hE h32
 obtain⟨q35,q36,q37,q38⟩:=YM (p:=g.p) (pA:=h.s.pA) (t:=h.t) (Og:=h.hP) (pC:=h.pC) (Oi:=h.sP) h32
 have hVx:∀x∈h.rg.filter (· ≠0)++h.V,Rq x:=fun x hx=>by
  rcases Ci.1 hx with h1|h1
  ·exact hrg x (GZ.1 h1).1
  ·exact hO.V8.i64 x h1
 have hxl:(h.rg.filter (· ≠0)++h.V).length=(h.rg.filter (· ≠0)).length+8:=by rw[Cj,hO.V8.1]
 have hfl:(h.rg.filter (· ≠0)).length≤32:=by rw[←h32];exact Ho _ _
 have hh:∀a,Ee h.s.U a=true→Ob.hd d.cache a=true:=fun a ha=>(Ob.OW (hO.al.us a ha)).2.2
 unfold Fq.L at HR
 refine BO 25 func29 O (AP (EM O (wu ?_)))
 refine BL H O (hWk ((HR.same H.only).RS 2 O)) (arR O) fun W1 H=>Ei H O U0 fun p3 _ H=>vw ?_
 clear H;refine axS fun _ H=>?_
 refine uj ?_
 refine BI O ZV (BG (HR.same H.only) 0 O O O PZ (s_call O (hNw ((HR.same H.only).Bl 1 O)) (au6 O) ?_))
 rintro e W1 ⟨pH,pS,b,A,c,rfl,hs0,H'⟩
 refine⟨_,rfl,?_⟩
 have H:=H.more H';clear H';simp only[Bv]at H
 refine Fb O (AO (A8 ?_))
 have hRs:=fun{W:World} (LA:Option Addr) (ln lc:Nat) (xs:List Int) hE hQ hx hl hi=>adx (g:=g) (d:=d) (s:=h.s) (w:=W) (pH:=pH) (pS:=pS) (b:=b) (A:=A) (c:=c) (l:=List.replicate d.cache.length false) hE hW Y hO.al.su hh hs0 LA ln lc xs hQ hx hl hi
 have hSw:∀{W:World},Heap w [] [blk p3 [.int .i64 v0,.int .i64 v1,.int .i64 v2,.int .i64 v3,.int .i64 v4,.int .i64 v5,.int .i64 v6,.int .i64 v7] 103] W→I5 (Value.int .i64) W [] (some ⟨p3,0,none⟩) h.V:=fun H=>fun _=>⟨p3,0,rfl,J,H.VJ 0 rfl hVm.symm⟩
 refine Gl (fun f W=>∃l,Ov d h.s (List.replicate d.cache.length false) l (h.rg.filter (· ≠0)++h.V)∧f 4=ptr pH∧Heap w [] [grp (hdE h.s.pA pH pS b A c l)] W) ?_ ?_
 ·rw[Dn]at hRs
  refine G5 mixed ?_;replace H:=H.drew
  refine xg ?_
  refine CZ 1 O O O (fun _ hS=>Cc (v:= .pointer _) O) trivial (CZ 2 O O O (fun _ hS=>DT O) trivial (CZ 3 O O O (fun _ hS=>Cm O NQ) trivial (CZ 5 O O O (fun _ hS=>aiO O underlying103 Ji Y) trivial (BD 4 O (s_call O (hAl ((HR.same H.only).RS 0 O)) (asr O) ?_)))))
  rintro e W1 ⟨OA,oc,rfl,H'⟩
  refine⟨_,rfl,?_⟩
  have H:=H.more H';clear H';simp only[Bv]at H
  refine ak ?_
  refine BD 6 O (NK (enc:=(Value.int .i64)) H 0 O O O O ((hSw (H.BQ [2] O O))) (hO.V8.1) (fun _=>rfl) Y underlying22 JH O ?_)
  clear H;intro A1 c1 _ H;simp only[Bv,Nat.reduceAdd]at H
  refine wE ?_
  refine s_call O (hRs A1 _ c1 _ ((VL (HR.RS 1 O) H).BQ [3,1] O O).ents (I5.grp (aiY H)) hxl Y hVx) (aq4 O) ?_
  rintro e W1 ⟨l,hst,rfl,H'⟩
  refine⟨_,rfl,?_⟩
  have H:=H.CX 1 rfl H';clear H';simp only[Bv]at H
  refine kJ ?_
  exact⟨l,hst,rfl,H.BQ [1] rfl rfl⟩
 clear H
 rintro f W ⟨l,hst,f4,H⟩
 obtain⟨f,rfl⟩:=aci f4
 clear f4
 have hs1:=hs0.len2 hst.len
 refine AX (AP (Bg O (s_call O ((am8 (H.Bl 0 O) hs1)) (aov O) ?_)))
 rintro e W1 ⟨B,q,rfl,H'⟩
 refine⟨_,rfl,?_⟩
 have H:=H.more H';clear H'
 refine rW ?_
 exact⟨l,B,q,hst,rfl,H.only⟩
end
theorem afU(l:List Bool):(Bm.elems l).Nodup:=by
 unfold Bm.elems Bm.upto
 refine Ru.2 ((List.nodup_range.filter _).imp ?_)
 intro i j hij e
 exact hij Y
theorem ajc{l:List Bool}{x:Int}:x∈Bm.elems l↔Ee l x=true:=by
 constructor
 ·intro h
  obtain⟨h0,h1⟩:=Bm.aoa h
  obtain⟨i,rfl⟩:=BR h0
  have:=Bm.elem_iff.1 h
  unfold Ee
  rw[decide_eq_true h0,BJ,this];rfl
 ·intro h
  have h0:=(NZ h).1
  obtain⟨i,rfl⟩:=BR h0
  unfold Ee at h
  rw[decide_eq_true h0,BJ,Gy]at h
  exact Bm.elem_iff.2 h
theorem akf{l:List Bool}{a:Int}(h:∀x,Ee l x=true↔x=a):(Bm.elems l).length=1:=by
 have hp:(Bm.elems l).Perm [a]:=(QC (afU l) J).2 fun x=>by rw[ajc,h,Bz]
 rw[hp.length_eq];rfl
theorem TJ.head{m N k z a:Nat}{s:IX}{p q:Int}{d d':Nv.D}{hs':List Ob.H3}{S' E':IL}{F':Nat→EP}{KP:Vf}(hP:TJ m s N p q z k d d' hs' S' E' F' KP a)(hp:0≤p∧p≤63)(hq:0≤q∧q≤16384)(haU:Ee (Bm.put s.U a true) a=true):Ob.hp d'.cache a=p∧Ob.hq d'.cache a=q:=by
 obtain⟨_,_,_,hhd,_,_,_,_⟩:=hP.al.obj hP.dv.U haU
 obtain⟨g1,g2,g3⟩:=Oh.Rt p q a hp.1 hp.2 hq.1 hq.2
 exact⟨by unfold Ob.hp;rw[if_pos hhd,hP.w0];exact g2,by unfold Ob.hq;rw[if_pos hhd,hP.w0];exact g3⟩
theorem aoU(w:World):Calls prog 5 [].toArray w fun e w'=>e= .returned (.bool true)∧Only [] w w':=by
 have H:=Heap.nil w
 have hNw:=fun(W:World)=>apH (fun _=>0) (fun _=>Y) 4 1 ⟨Y,Y⟩ ⟨Y,Y⟩ W
 obtain⟨k1,hk1⟩:=BR (Cl.YJ 3).1
 have Jv:k1<32:=by have:=(Cl.YJ 3).2;omega
 refine BO 29 func5 O (uV ?_)
 refine AP (AV (FI (aaz _ _ _) O) (s_call O (hNw _) (ca7 O) ?_))
 rintro e W1 ⟨g,d,h,hg,hF,hM,rfl,H'⟩
 refine⟨_,rfl,?_⟩
 have H:=H.more H';clear H';simp only[Dl]at H
 refine fJ ?_
 refine AO (iQ ?_)
 refine AV (Dc O O Y) (BX O (Bo 10 O (Ls O) (Bo 10 O (aa8 O O underlying29) (gQ ?_))))
 refine A8 ?_
 have hroom:lk h.s.F k1≠0∨∃b:Nat,QY h.s.hs h.s.n b:= .inr ⟨1,Y,by rw[hF.ok.sn];omega,(0,0,0),by rw[hF.hs];rfl,rfl⟩
 have hAl:=fun{W:World} hE=>aeb (g:=g) (d:=d) (h:=h) (w:=W) hE hF.ok hg 0 0 Y Y 1 1 3 k1 (by rw[hM]) Y Y Y Ak hk1 hroom
 have hSp:=fun{h:Fq} {d:Nv.D} {W:World} hE=>aea (g:=g) (d:=d) (h:=h) (w:=W) hE
 have hLv:=fun{h:Fq} {d:Nv.D} {W:World} hE hO hr=>aoV (g:=g) (d:=d) (m:=64*4) (n:=4) (id:=1) (h:=h) (w:=W) hE hO hr
 have hrg:=hF.rg
 have hV:=hF.V
 have key:∀{d' hs' S' E' F' KP} {a:Nat} {l:List Bool},TJ (64*4) h.s (512*4) 1 1 3 k1 d d' hs' S' E' F' KP a→Ov d' (alQ h.s hs' S' E' F' KP a) (List.replicate d'.cache.length false) l ((h.rg.set (8*0+0) (a:Nat)).filter (· ≠0)++h.V)→(Bm.elems l).length=1:=fun{d' hs' S' E' F' KP a l} hP hst=>by
  have hbd:=hP.ce.bd Jv
  have hw:=Cl.Gt (k1:Int) Y Y
  have hul:=hF.ok.al.ul
  have hn2:=hF.ok.al.n2
  have hput:∀b,Ee (Bm.put h.s.U a true) b=if(a:Int)=b then true else Ee h.s.U b:=fun b=>Bm.V9 h.s.U a b true ⟨Y,Y⟩
  have haU:Ee (Bm.put h.s.U a true) a=true:=by rw[hput,if_pos rfl]
  have hon:∀x,Ee (Bm.put h.s.U a true) x=true→x=a:=fun x hx=>by
   rw[hput]at hx
   split at hx
   ·rename_i e;exact e.symm
   ·rw[hF.us]at hx;cases hx
  obtain⟨hp1,hq1⟩:=hP.head Y Y haU
  have hpt:∀y∈Ob.ptrs d'.cache a,y=0:=fun y hy=>by
   unfold Ob.ptrs Ob.LM at hy
   rw[hp1]at hy
   have h1:=hP.wz 1 Y Y
   simp only[Int.toNat_one,List.range_one,DJ,Ef,Bz]at hy
   rw[hy]
   unfold Ob.UL
   rw[show(a:Int)+(1+((0:Nat):Int))=((a+1:Nat):Int)by omega,h1]
   rfl
  have hcl:=hst.cl (fun x=>x=a∨x=0) (fun x _ hx y hy=>by
   obtain rfl:=hon x hx
   exact .inr (hpt y hy)) fun x hx=>by
   rcases Ci.1 hx with h1|h1
   ·rw[hrg]at h1
    have h2:=(GZ.1 h1).1
    rcases DY h2 with h3|h3
    ·exact .inr (Hq h3)
    ·exact .inl h3
   ·rw[hV]at h1
    exact .inr (by simpa [zr8]using h1)
  have hll:l.length=512*4:=by
   rw[hst.len,Dn,hP.dv.len]
  refine akf (a:=(a:Int)) fun x=>⟨fun hx=>?_,fun hx=>?_⟩
  ·rcases hcl x hx with h1|⟨_,h1⟩
   ·rw[abg]at h1;cases h1
   ·exact hon x h1
  ·subst hx
   refine hst.got a (CO _ (GZ.2 ⟨?_,decide_eq_true Y⟩)) haU (by rw[Dn,hP.dv.len];rw[hF.ok.sn]at hbd;omega)
   rw[hrg]
   exact List.mem_set J _
 refine DF (Bg O (AV (FI (av') O) (s_call O (hAl H.ents) (aqz O) ?_)))
 rintro e W1 ⟨d',hs',S',E',F',KP,a,hP,hal,rfl,H'⟩
 refine⟨_,rfl,?_⟩
 have H:=H.whole H';clear H';have hO2:=(aek (G:=fun _=>False) hF.ok (.inl hF.ph) hP hal Jv Y Y Y (8*0+0)).ok
 refine AV (D7 O O Y) (BX O (Bo 18 O (Ls O) (s_call (ET 18 Aw O) ((hSp H.ents)) (amO O) ?_)))
 rintro e W1 ⟨rfl,H'⟩
 refine⟨_,rfl,?_⟩
 have H:=H.same H';clear H'
 refine Bo 18 O (Y1 O O underlying73) (EZ O O (BX O (Bo 23 O (Ls O) ?_)))
 refine s_call (ET 23 Aw O) ((hLv H.ents hO2 (fun x hx=>by rw[hrg]at hx;rcases DY hx with h3|h3;(rw[Hq h3];exact⟨Y,Y⟩);(rw[h3];exact⟨Y,by have:=hP.ce.bd Jv;have:=Cl.Gt (k1:Int) Y Y;have:=hF.ok.al.n2;omega⟩)))) (awC O) ?_
 rintro e W1 ⟨l,A,c,hst,rfl,H'⟩
 refine⟨_,rfl,?_⟩
 have hel:=key hP hst;have H:=H.same H';clear H'
 refine Bo 23 O (Gw O underlying22) (Bo 23 O (D7 O O Y) (uh ?_))
 exact⟨rfl,H.only⟩
end
end
section
section
open Go.RowKit
def G0(l:List (Int×Int))(T:Tr)(x:Int):Prop:=(∃p∈l,x=p.1)∨T.has x
theorem ae6{c:List Int}{a y:Int}:y∈Ob.ptrs c a↔∃i:Nat,i<(Ob.hp c a).toNat∧Ob.UL c (a+(1+(i:Int)))=y:=by
 unfold Ob.ptrs Ob.LM
 rw[DN]
 exact⟨fun⟨i,h1,h2⟩=>⟨i,Fg.1 h1,h2⟩,fun⟨i,h1,h2⟩=>⟨i,Fg.2 h1,h2⟩⟩
theorem Pn.ptrs{U:List Bool}{c:List Int}{a nx v:Int}(N:Pn U c a nx v){y:Int}:y∈Ob.ptrs c a↔y=nx:=by
 rw[ae6,N.hp]
 constructor
 ·rintro⟨i,h1,h2⟩
  obtain rfl:i=0:=Y
  rw[←h2,show a+(1+((0:Nat):Int))=a+1 by omega,N.l]
 ·rintro rfl
  exact⟨0,Y,by rw[show a+(1+((0:Nat):Int))=a+1 by omega,N.l]⟩
theorem Nd.ptrs{U:List Bool}{c:List Int}{a l r k v:Int}(N:Nd U c a l r k v){y:Int}:y∈Ob.ptrs c a↔y=l∨y=r:=by
 rw[ae6,N.hp]
 constructor
 ·rintro⟨i,h1,h2⟩
  rcases(show i=0∨i=1 by omega)with rfl|rfl
  ·left;rw[←h2,show a+(1+((0:Nat):Int))=a+1 by omega,N.l]
  ·right;rw[←h2,show a+(1+((1:Nat):Int))=a+2 by omega,N.r]
 ·rintro(rfl|rfl)
  ·exact⟨0,Y,by rw[show a+(1+((0:Nat):Int))=a+1 by omega,N.l]⟩
  ·exact⟨1,Y,by rw[show a+(1+((1:Nat):Int))=a+2 by omega,N.r]⟩
theorem Pl.gen{U:List Bool}{c:List Int}{G P:Int→Prop}(hc:∀x,P x→G x→∀y∈Ob.ptrs c x,G y→P y):∀(l:List (Int×Int)),Pl.At U c l→(∀p∈l,G p.1)→(l≠[]→P (Pl.IU l))→∀p∈l,P p.1
 | [],_,_,_=>by simp
 |q::l,h,hG,h0=>by
  have hq:P q.1:=h0 J
  have hr:=Pl.gen hc l h.2.2 (fun p hp=>hG p (DZ _ hp)) fun hn=>by
   cases l with
   |nil=>exact absurd rfl hn
   |cons r l=>exact hc _ hq (hG q J) _ (h.1.ptrs.2 rfl) (hG r J)
  intro p hp
  rcases Dh.1 hp with rfl|hp
  ·exact hq
  ·exact hr p hp
theorem Tr.gen{U:List Bool}{c:List Int}{G P:Int→Prop}(hc:∀x,P x→G x→∀y∈Ob.ptrs c x,G y→P y):∀(T:Tr),T.At U c→(∀x,T.has x→G x)→(T.isN=true→P T.IU)→∀x,T.has x→P x
 | .nil,_,_,_=>fun _ h=>h.elim
 | .node a k v l r,h,hG,h0=>by
  have ha:P a:=h0 rfl
  have hGa:=hG a (.inl rfl)
  have h1:=Tr.gen hc l h.2.2.1 (fun x hx=>hG x (.inr (.inl hx))) fun hn=>hc _ ha hGa _ (h.1.ptrs.2 (.inl rfl)) (hG _ (.inr (.inl (Tr.agE hn))))
  have h2:=Tr.gen hc r h.2.2.2 (fun x hx=>hG x (.inr (.inr hx))) fun hn=>hc _ ha hGa _ (h.1.ptrs.2 (.inr rfl)) (hG _ (.inr (.inr (Tr.agE hn))))
  rintro x (rfl|hx|hx)
  ·exact ha
  ·exact h1 x hx
  ·exact h2 x hx
theorem Pl.YR{U:List Bool}{c:List Int}:∀{l:List (Int×Int)},Pl.At U c l→∀p∈l,Ee U p.1=true
 | [],_=>by simp
 |q::l,h=>fun p hp=>by
  rcases Dh.1 hp with rfl|hp
  ·exact h.1.us
  ·exact Pl.YR h.2.2 p hp
structure RD (d:Nv.D) (h:Fq) (l:List (Int×Int)) (T:Tr) (A:Nat):Prop where
 R:Rest d (64*40) 1 h (G0 l T) A
 pl:Pl.At h.s.U d.cache l
 tr:T.At h.s.U d.cache
 V:h.V=[0,0,Pl.IU l,0,0,T.IU,0,0]
 RV:h.R=h.V
 rg:h.rg=Pj 0 0 0 0
theorem Rest.sub{d:Nv.D}{h:Fq}{m:Nat}{id:Int}{G G':Int→Prop}{A:Nat}(R:Rest d m id h G A)(e:∀x,G' x→G x):Rest d m id h G' A:=⟨R.ok,R.gc.sub e,R.cl,R.cp,R.mu⟩
section
variable{d d':Nv.D}{h h':Fq}{l:List (Int×Int)}{T:Tr}{A:Nat}
theorem RD.us(B:RD d h l T A):∀x,G0 l T x→Ee h.s.U x=true:=fun x hx=>by
 rcases hx with⟨p,hp,rfl⟩|hx
 ·exact Pl.YR B.pl p hp
 ·exact Tr.YR B.tr hx
theorem RD.V2(B:RD d h l T A):h.V.getD 2 0=Pl.IU l:=by rw[B.V];rfl
theorem RD.V5(B:RD d h l T A):h.V.getD 5 0=T.IU:=by rw[B.V];rfl
theorem RD.kept(B:RD d h l T A):Kept h.s.U d.cache h.V (G0 l T):=by
 refine⟨B.us,fun P hr hc x hx=>?_⟩
 rcases hx with⟨p,hp,rfl⟩|hx
 ·refine Pl.gen hc l B.pl (fun p hp=> .inl ⟨p,hp,rfl⟩) (fun hn=>?_) p hp
  cases l with
  |nil=>exact absurd rfl hn
  |cons q l=>exact hr _ (by rw[B.V];simp[Pl.IU]) (.inl ⟨q,J,rfl⟩)
 ·exact Tr.gen hc T B.tr (fun x hx=> .inr hx) (fun hn=>hr _ (by rw[B.V];simp) (.inr (Tr.agE hn))) x hx
theorem Nd.same{U U':List Bool}{c c':List Int}{a l r k v:Int}(hl:c'.length=c.length)(hw:Ob.Qv c)(s:Sm c c' a)(hu:Ee U' a=true)(N:Nd U c a l r k v):Nd U' c' a l r k v:=by
 obtain⟨_,h1,h2,_⟩:=XY hl hw s
 have ho:RX c a=5:=by unfold RX;rw[N.hp,N.hq];omega
 refine⟨hu,h1.trans N.hp,h2.trans N.hq,?_,?_,?_,?_⟩
 ·rw[←N.l];unfold Ob.UL;rw[s _ Y Y]
 ·rw[←N.r];unfold Ob.UL;rw[s _ Y Y]
 ·rw[←N.k];exact s _ Y Y
 ·rw[←N.v];exact s _ Y Y
theorem Pn.same{U U':List Bool}{c c':List Int}{a nx v:Int}(hl:c'.length=c.length)(hw:Ob.Qv c)(s:Sm c c' a)(hu:Ee U' a=true)(N:Pn U c a nx v):Pn U' c' a nx v:=by
 obtain⟨_,h1,h2,_⟩:=XY hl hw s
 have ho:RX c a=3:=by unfold RX;rw[N.hp,N.hq];omega
 refine⟨hu,h1.trans N.hp,h2.trans N.hq,?_,?_⟩
 ·rw[←N.l];unfold Ob.UL;rw[s _ Y Y]
 ·rw[←N.v];exact s _ Y Y
theorem Pl.At.same{U U':List Bool}{c c':List Int}(hl:c'.length=c.length)(hw:Ob.Qv c):∀{l:List (Int×Int)},(∀p∈l,Sm c c' p.1∧Ee U' p.1=true)→Pl.At U c l→Pl.At U' c' l
 | [],_,_=>trivial
 |q::l,hs,h=>⟨h.1.same hl hw (hs q J).1 (hs q J).2,h.2.1,Pl.At.same hl hw (fun p hp=>hs p (DZ _ hp)) h.2.2⟩
theorem Tr.At.same{U U':List Bool}{c c':List Int}(hl:c'.length=c.length)(hw:Ob.Qv c):∀{T:Tr},(∀x,T.has x→Sm c c' x∧Ee U' x=true)→T.At U c→T.At U' c'
 | .nil,_,_=>trivial
 | .node a k v l r,hs,h=>⟨h.1.same hl hw (hs a (.inl rfl)).1 (hs a (.inl rfl)).2,h.2.1,Tr.At.same hl hw (fun x hx=>hs x (.inr (.inl hx))) h.2.2.1,Tr.At.same hl hw (fun x hx=>hs x (.inr (.inr hx))) h.2.2.2⟩
theorem RD.gst(B:RD d h l T A)(hO:F6 d' (64*40) 40 1 h')(hC:MZ d' h' (G0 l T))(S:Gst d d' (64*40) h h' (G0 l T)):RD d' h' l T A∧h'.pH=h.pH∧h'.E=h.E:=by
 have eV:h'.V=h.V:=by have:=congrArg Fq.V S.e;exact this
 have eR:h'.R=h.R:=by have:=congrArg Fq.R S.e;exact this
 have er:h'.rg=h.rg:=by have:=congrArg Fq.rg S.e;exact this
 have eM:h'.s.M=h.s.M:=by have:=congrArg IX.M S.se;exact this
 have hs:∀x,G0 l T x→Sm d.cache d'.cache x∧Ee h'.s.U x=true:=fun x hx=>⟨fun y y1 y2=>by
  have h1:=B.R.ok.bd (B.us x hx)
  exact S.D.o y Y,S.kp x hx⟩
 have hlen:d'.cache.length=d.cache.length:=by rw[hO.dev.dv.len,B.R.ok.dev.dv.len]
 refine⟨⟨⟨hO,hC,fun j=>S.D.k j (B.R.cl j),B.R.cp.less (fun b=>(S.hs b).imp id fun e=>e.2) S.us,by rw[eM,B.R.mu]⟩,?_,?_,by rw[eV,B.V],by rw[eR,eV,B.RV],by rw[er,B.rg]⟩,by have:=congrArg Fq.pH S.e;exact this,by have:=congrArg Fq.E S.e;exact this⟩
 ·exact Pl.At.same hlen B.R.ok.dev.dv.U (fun p hp=>hs p.1 (.inl ⟨p,hp,rfl⟩)) B.pl
 ·exact Tr.At.same hlen B.R.ok.dev.dv.U (fun x hx=>hs x (.inr hx)) B.tr
theorem RD.good(B:RD d h l T A):Tr.Good (Ob.pl 40 d.cache h.s.hs) (Ob.ptrs d.cache) h.R (G0 l T):=by
 have hl0:Pl.IU l=0∨G0 l T (Pl.IU l):=by
  cases l with
  |nil=>exact .inl rfl
  |cons q l=>exact .inr (.inl ⟨q,J,rfl⟩)
 have hT0:∀{t:Tr},(∀x,t.has x→G0 l T x)→t.IU=0∨G0 l T t.IU:=fun{t} ht=>by
  cases t with
  |nil=>exact .inl rfl
  |node a k v p q=>exact .inr (ht _ (.inl rfl))
 refine⟨fun r hr=>?_,fun a ha=>⟨?_,fun y hy=>?_⟩⟩
 ·rw[B.RV,B.V]at hr
  simp only[Dh,Gx,or_false]at hr
  rcases hr with rfl|rfl|rfl|rfl|rfl|rfl|rfl|rfl
  ·exact .inl rfl
  ·exact .inl rfl
  ·exact hl0
  ·exact .inl rfl
  ·exact .inl rfl
  ·exact hT0 fun x hx=> .inr hx
  ·exact .inl rfl
  ·exact .inl rfl
 ·have:=B.R.ok.al.us a (B.us a ha)
  rw[B.R.ok.sn]at this
  exact this
 ·rcases ha with⟨p,hp,rfl⟩|ha
  ·have key:∀(l2:List (Int×Int)),Pl.At h.s.U d.cache l2→(∀q∈l2,q∈l)→p∈l2→y=0∨G0 l T y:=fun l2=>by
    induction l2 with
    |nil=>intro _ _ hp;cases hp
    |cons q l2 ih=>
     intro h1 h2 h3
     rcases Dh.1 h3 with rfl|h3
     ·rw[h1.1.ptrs]at hy
      rw[hy]
      cases l2 with
      |nil=>exact .inl rfl
      |cons r l2=>exact .inr (.inl ⟨r,h2 r J,rfl⟩)
     ·exact ih h1.2.2 (fun q hq=>h2 q (DZ _ hq)) h3
   exact key l B.pl (fun q hq=>hq) hp
  ·have key:∀(t:Tr),t.At h.s.U d.cache→(∀x,t.has x→T.has x)→t.has a→y=0∨G0 l T y:=fun t=>by
    induction t with
    |nil=>intro _ _ hp;exact hp.elim
    |node b k v p q ihp ihq=>
     rintro h1 h2 (rfl|h3|h3)
     ·rw[h1.1.ptrs]at hy
      rcases hy with rfl|rfl
      ·exact hT0 fun x hx=> .inr (h2 x (.inr (.inl hx)))
      ·exact hT0 fun x hx=> .inr (h2 x (.inr (.inr hx)))
     ·exact ihp h1.2.2.1 (fun x hx=>h2 x (.inr (.inl hx))) h3
     ·exact ihq h1.2.2.2 (fun x hx=>h2 x (.inr (.inr hx))) h3
   exact key T B.tr (fun x hx=>hx) ha
theorem RD.open(B:RD d h l T A){L:List Int}{N:Nat}(hop:Opened (Nv.load d.cache (64*40)) d' (64*40) 40 1 h.s.hs h.k h.E h.R L h'.s N)(hok:F6 d' (64*40) 40 1 h')(hM:h'.s.M=aeE)(hR:h'.R=h.R)(hV:h'.V=h.R)(hrg:h'.rg=List.replicate 32 0)(hph:h'.ph=0):RD d' h' l T A:=by
 have hLk:∀x,G0 l T x→x∈L:=fun x hx=>by
  refine B.kept.gen (fun x=>x∈L) (fun r hr hg=>?_) (fun x hx hg y hy hgy=>?_) x hx
  ·rcases hop.live.ro r (by rw[B.RV];exact hr)with e|e
   ·have:=B.R.ok.bd (B.us r hg);omega
   ·exact e
  ·rcases hop.live.on x hx y hy with e|e
   ·have:=B.R.ok.bd (B.us y hgy);omega
   ·exact e
 have hs:∀x,G0 l T x→Sm d.cache d'.cache x∧Ee h'.s.U x=true:=fun x hx=>⟨fun y y1 y2=>by
  have h1:=B.R.ok.bd (B.us x hx)
  exact hop.o y Y,by rw[hop.us];exact decide_eq_true (hLk x hx)⟩
 have hlen:d'.cache.length=d.cache.length:=by rw[hok.dev.dv.len,B.R.ok.dev.dv.len]
 refine⟨⟨hok,.inl hph,fun j=>hop.k j (afg _ _ j),B.R.cp.less (fun b=>?_) fun x hx=>?_,hM⟩,?_,?_,by rw[hV,B.RV,B.V],by rw[hR,hV],hrg⟩
 ·rw[hop.sh]
  by_cases hb:b<h.s.hs.length
  ·rw[VY L hb]
   split
   ·left;rw[BN,Ba hb];rfl
   ·exact .inr rfl
  ·left;rw[DX (by rw[Qi];omega),DX Y]
 ·rw[hop.us]at hx
  exact B.us x (hop.live.le _ B.good x (of_decide_eq_true hx))
 ·exact Pl.At.same hlen B.R.ok.dev.dv.U (fun p hp=>hs p.1 (.inl ⟨p,hp,rfl⟩)) B.pl
 ·exact Tr.At.same hlen B.R.ok.dev.dv.U (fun x hx=>hs x (.inr hx)) B.tr
theorem RD.arn(B:RD d h l T A):KR (Nv.load d.cache (64*40)) (64*40) 40 1 h.s.hs h.k h.E h.R:=
 B.R.ok.dev.words (Dv.load B.R.ok.dev.dv.len B.R.ok.dev.dv.U) B.R.ok.al.hd B.R.ok.dev.hl B.R.ok.dev.sm fun _ _=>rfl
theorem RD.last(B:RD d h l T A):d.last=d.cache:=by
 have hI:=B.R.ok.dev.dv.I
 have h1:=hI.ok.hl
 have h2:=hI.ok.hc
 apply JK Y
 intro i i1 i2
 have:=hI.cl i Y (B.R.cl (i/8))
 simp only[BN]at this
 rw[Ba i1,Ba i2]at this
 exact this
theorem RD.new(F:amy d (64*40) 40 1 h)(hM:h.s.M=aeE):RD d h [] .nil 0:=by
 refine⟨⟨F.ok,.inl F.ph,F.cl,?_,hM⟩,trivial,trivial,F.V,by rw[F.R,F.V],F.rg⟩
 have hc:Bm.cnt h.s.U≤0:=by
  have h1:=afl (U:=List.replicate 1 false) (U':=h.s.U) fun x hx=>by rw[F.us]at hx;cases hx
  rw[Bm.adS]at h1
  exact h1
 rw[F.hs]
 exact⟨hc,fun x hx=> .inl (Hq hx),by rw[List.count_replicate];simp,by rw[List.count_replicate];simp⟩
theorem RD.push(B:RD d h l T A){a:Nat}{v:Int}(R:Rest d' (64*40) 1 h' (fun t=>G0 l T t∨t=a) (A+1))(AL:Yz d d' h h' 2 a)(N:Pn h'.s.U d'.cache a (Pl.IU l) v)(hv:Ui v)(hrg:h'.rg=Pj 0 0 0 0):RD d' h' (((a:Int),v)::l) T (A+1):=by
 refine⟨R.sub fun x hx=>?_,⟨N,hv,B.pl.sm B.R.ok R.ok.dev.dv AL.sm AL.us⟩,B.tr.opd B.R.ok R.ok.dev.dv AL,by rw[AL.V,B.V];rfl,AL.R,hrg⟩
 rcases hx with⟨p,hp,rfl⟩|hx
 ·rcases Dh.1 hp with rfl|hp
  ·exact .inr rfl
  ·exact .inl (.inl ⟨p,hp,rfl⟩)
 ·exact .inl (.inr hx)
theorem RD.pop{p:Int×Int}(B:RD d h (p::l) T A)(R:Rest d' (64*40) 1 h' (G0 (p::l) T) A)(AL:Yz d d' h h' 2 (Pl.IU l))(hrg:h'.rg=Pj 0 0 0 0):RD d' h' l T A:=by
 refine⟨R.sub fun x hx=>?_,B.pl.2.2.sm B.R.ok R.ok.dev.dv AL.sm AL.us,B.tr.opd B.R.ok R.ok.dev.dv AL,by rw[AL.V,B.V];rfl,AL.R,hrg⟩
 rcases hx with⟨q,hq,rfl⟩|hx
 ·exact .inl ⟨q,DZ _ hq,rfl⟩
 ·exact .inr hx
theorem RD.tree(B:RD d h l T A){T':Tr}{G':Int→Prop}{A':Nat}(R:Rest d' (64*40) 1 h' G' A')(AL:Yz d d' h h' 5 T'.IU)(hT:T'.At h'.s.U d'.cache)(h1:∀t,G0 l T t→G' t)(h2:∀t,T'.has t→G' t)(hrg:h'.rg=Pj 0 0 0 0):RD d' h' l T' A':=by
 refine⟨R.sub fun x hx=>?_,B.pl.sm B.R.ok R.ok.dev.dv AL.sm AL.us,hT,by rw[AL.V,B.V];rfl,AL.R,hrg⟩
 rcases hx with⟨q,hq,rfl⟩|hx
 ·exact h1 _ (.inl ⟨q,hq,rfl⟩)
 ·exact h2 _ hx
theorem RD.drop(B:RD d h l T A){r:List Int}(hr:r=Pj 0 0 0 0):RD d {h with rg:=r} l T A:=by
 subst hr
 rw[←B.rg]
 exact B
theorem RD.mono(B:RD d h l T A){A':Nat}(hA:A≤A'):RD d h l T A':=⟨B.R.mono hA,B.pl,B.tr,B.V,B.RV,B.rg⟩
end
end
end
section
section
open Go.RowKit
section
variable{β:Type}
theorem aaY(a b:Int)(v:β):∀l:List (Int×β),FZ (JX l a v) b=if b=a then some v else FZ l b
 | []=>by
  show(if a=b then some v else none)=_
  by_cases e:b=a
  ·rw[if_pos e.symm,if_pos e]
  ·rw[if_neg (fun h=>e h.symm),if_neg e];rfl
 |p::l=>by
  have ih:=aaY a b v l
  unfold JX
  by_cases e:p.1=a
  ·rw[if_pos e]
   show(if a=b then some v else FZ l b)=if b=a then some v else if p.1=b then some p.2 else FZ l b
   by_cases e2:b=a
   ·rw[if_pos e2.symm,if_pos e2]
   ·rw[if_neg (fun h=>e2 h.symm),if_neg e2,if_neg (fun h=>e2 (h.symm.trans e))]
  ·rw[if_neg e]
   show(if p.1=b then some p.2 else FZ (JX l a v) b)=if b=a then some v else if p.1=b then some p.2 else FZ l b
   rw[ih]
   by_cases e2:p.1=b
   ·rw[if_pos e2,if_pos e2,if_neg (fun h=>e (e2.trans h))]
   ·rw[if_neg e2,if_neg e2]
theorem Xa(a:Int)(v:β):∀l:List (Int×β),(JX l a v).length=l.length+if(FZ l a).isNone=true then 1 else 0
 | []=>rfl
 |p::l=>by
  have ih:=Xa a v l
  unfold JX FZ
  by_cases e:p.1=a
  ·rw[if_pos e,if_pos e];simp
  ·rw[if_neg e,if_neg e,Es,ih,Es];omega
theorem aaO(a b:Int):∀l:List (Int×β),(l.map Prod.fst).Nodup→FZ (NH l a) b=if b=a then none else FZ l b
 | []=>fun _=>by
  show(none:Option β)=_
  split<;>rfl
 |p::l=>fun hd=>by
  simp only[DJ,HY]at hd
  have ih:=aaO a b l hd.2
  unfold NH
  by_cases e:p.1=a
  ·rw[if_pos e]
   show FZ l b=if b=a then none else if p.1=b then some p.2 else FZ l b
   by_cases e2:b=a
   ·rw[if_pos e2,e2]
    exact(IE l a).2 fun q hq h=>hd.1 (by rw[e,←h];exact DN.2 ⟨q,hq,rfl⟩)
   ·rw[if_neg e2,if_neg (fun h=>e2 (h.symm.trans e))]
  ·rw[if_neg e]
   show(if p.1=b then some p.2 else FZ (NH l a) b)=if b=a then none else if p.1=b then some p.2 else FZ l b
   rw[ih]
   by_cases e2:p.1=b
   ·rw[if_pos e2,if_pos e2,if_neg (fun h=>e (e2.trans h))]
   ·rw[if_neg e2,if_neg e2]
theorem abw(a:Int):∀l:List (Int×β),(FZ l a).isSome=true→(NH l a).length+1=l.length
 | []=>fun h=>by cases h
 |p::l=>fun h=>by
  have ih:=abw a l
  unfold NH
  unfold FZ at h
  by_cases e:p.1=a
  ·rw[if_pos e];rfl
  ·rw[if_neg e]at h
   rw[if_neg e,Es,Es,ih h]
end
structure BoS (n:Nat) (d:Nv.D) (h:Fq) (l:List (Int×Int)) (T:Tr) (A:Nat) (ws:List Int) (mv:List (Int×Int)):Prop where
 B:RD d h l T A
 hA:A≤41*n
 E:h.E≤1+n
 ll:l.length≤n
 ws:ws=(l.map (·.2)).reverse
 bst:T.pl.Bst
 sz:T.pl.size=mv.length
 ml:mv.length≤n
 get:∀x,T.pl.get x=FZ mv x
section
variable{n:Nat}{d d':Nv.D}{h h':Fq}{l:List (Int×Int)}{T:Tr}{A:Nat}{ws:List Int}{mv:List (Int×Int)}
theorem BoS.new(F:amy d (64*40) 40 1 h)(hM:h.s.M=aeE):BoS 0 d h [] .nil 0 [] []:=
 ⟨RD.new F hM,Y,by rw[F.E];omega,BF _,rfl,trivial,rfl,BF _,fun _=>rfl⟩
theorem BoS.next(S:BoS n d h l T A ws mv)(B:RD d' h' l T A)(hE:h'.E=h.E):BoS (n+1) d' h' l T A ws mv:=
 ⟨B,by have:=S.hA;omega,by have:=S.E;omega,by have:=S.ll;omega,S.ws,S.bst,S.sz,by have:=S.ml;omega,S.get⟩
theorem BoS.push(S:BoS n d h l T A ws mv){a v:Int}(B:RD d' h' ((a,v)::l) T (A+1))(hE:h'.E=h.E+1):BoS (n+1) d' h' ((a,v)::l) T (A+1) (ws++ [v]) mv:=
 ⟨B,by have:=S.hA;omega,by have:=S.E;omega,by have:=S.ll;simp;omega,by rw[S.ws];simp,S.bst,S.sz,by have:=S.ml;omega,S.get⟩
theorem BoS.pop{p:Int×Int}(S:BoS n d h (p::l) T A ws mv)(B:RD d' h' l T A)(hE:h'.E=h.E+1):ws=(l.map (·.2)).reverse++ [p.2]∧BoS (n+1) d' h' l T A (l.map (·.2)).reverse mv:=
 ⟨by rw[S.ws];simp,B,by have:=S.hA;omega,by have:=S.E;omega,by have:=S.ll;simp at this;omega,rfl,S.bst,S.sz,by have:=S.ml;omega,S.get⟩
theorem BoS.put(S:BoS n d h l T A ws mv)(hn:n≤40){T':Tr}{k v:Int}(B:RD d' h' l T' (A+T.pl.size+1))(hp:T'.pl=T.pl.ins k v)(hE:h'.E=h.E+1):BoS (n+1) d' h' l T' (A+T.pl.size+1) ws (JX mv k v):=by
 have h1:=S.hA
 have h2:=S.E
 have h3:=S.ll
 have h4:=S.ml
 have h5:=S.sz
 refine⟨B,Y,Y,Y,S.ws,by rw[hp];exact PT.adY _ _ _ S.bst,?_,?_,fun x=>?_⟩
 ·rw[hp,PT.abp,Xa,S.sz,S.get]
  cases FZ mv k<;>rfl
 ·rw[Xa];split<;>omega
 ·rw[hp,PT.ad1,aaY,S.get]
theorem BoS.del(S:BoS n d h l T A ws mv)(hn:n≤40){T':Tr}{k v:Int}(hd:(mv.map Prod.fst).Nodup)(hg:FZ mv k=some v)(B:RD d' h' l T' (A+T.pl.size+1))(hp:T'.pl=T.pl.del k)(hE:h'.E=h.E+1):BoS (n+1) d' h' l T' (A+T.pl.size+1) ws (NH mv k):=by
 have h1:=S.hA
 have h2:=S.E
 have h3:=S.ll
 have h4:=S.ml
 have h5:=S.sz
 have h6:=abw k mv (by rw[hg];rfl)
 have h7:=PT.size_del T.pl k S.bst (by rw[S.get,hg];simp)
 refine⟨B,Y,Y,Y,S.ws,by rw[hp];exact PT.aal _ _ S.bst,by rw[hp];omega,Y,fun x=>?_⟩
 rw[hp,PT.X8 _ _ _ S.bst,aaO _ _ _ hd,S.get]
end
def kU(P:Program)(kt:TypeId)(h:P.underlying kt=some (.int .u64)):KC P kt Int:=
 ⟨Value.int .u64,fun a=>0≤a∧a≤18446744073709551615,Go.Maps.int_keyed h,fun a ha=>⟨_,Go.Maps.keyOf_int_mk h (by simp[Lit.wf,IntKind.min,IntKind.max,IntKind.signed,IntKind.bits];omega)⟩,fun a b e=>by injection e⟩
def kV:KC prog 26 Int:=kU prog 26 underlying26
end
end
section
section
open Go.RowKit
section
variable{g:Geo}{d:Nv.D}{m:Nat}{id:Int}{h:Fq}{pP:Nat}{w:World}{G:Int→Prop}{A:Nat}
theorem aqQ(hE:Dj [Qu pP h.pH,grp (h.L g d)] w)(R:Rest d m id h G A)(hg:Q5 g m)(hA:A≤1800)(hE9:h.E≤999){x0 y0 u0 v0:Int}(hrg:h.rg=Pj x0 y0 u0 v0){nx v:Int}(hV:h.V.getD 2 0=nx)(hnx:nx=0∨Ee h.s.U nx=true)(hv:Ui v):
 Calls prog 18 [ptr pP,.int .u64 v].toArray w fun e w'=>∃(d':Nv.D) (h':Fq) (a:Nat),Rest d' m id h' (fun t=>G t∨t=a) (A+1)∧Yz d d' h h' 2 a∧Ee h.s.U a=false∧Pn h'.s.U d'.cache a nx v∧h'.rg=Pj 0 0 u0 v0∧e= .returned (.int .i64 0)∧Heap w (ids [Qu pP h.pH,grp (h.L g d)]) [Qu pP h.pH,grp (h'.L g d')] w':=by
 have H:=Heap.start hE
 have hnb:0≤nx∧nx<131072:=by
  rcases hnx with e|e
  ·omega
  ·have:=R.ok.bd e;omega
 have hRo:=fun{W:World} hE=>agW (g:=g) (d:=d) (h:=h) (w:=W) hE R.ok 1 1 Y Y 2 Y nx hV
 generalize ids [Qu pP h.pH,grp (h.L g d)]=I at*
 refine acO (N:=81) func18 O O O (oM ?_)
 refine mQ ?_
 refine A8 (A8 ?_)
 refine Gl (fun f W=>f 0=ptr pP∧f 1= .int .u64 v∧f 5= .int .i64 0∧Heap w I [Qu pP h.pH,grp (Fq.L g d {h with rg:=h.rg.set (8*1+1) nx})] W) ?_ ?_
 ·refine JQ (A:=[_]) mixed H [0] O ?_;replace H:=H.drew
  refine dU ?_
  refine BL H O (abh _) (akw O) fun W1 H=>vX ?_
  rintro e W1 ⟨rfl,H'⟩
  refine⟨_,rfl,?_⟩
  have H:=H.CX 1 rfl H';clear H';simp only[Bv]at H
  refine dh ?_
  refine dP ?_
  exact⟨rfl,rfl,rfl,H⟩
 clear H
 rintro f W ⟨f0,f1,f5,H⟩
 obtain⟨f,rfl⟩:=KI f0 f1 f5
 clear f0 f1 f5
 have R0:=R.reg 9 (a:=nx) hnb
 have X0:Ext d d h {h with rg:=h.rg.set (8*1+1) nx}:=⟨fun _ h=>h,fun _ _ _ _ _=>rfl,rfl,rfl⟩
 have hrg0:({h with rg:=h.rg.set (8*1+1) nx}:Fq).rg=Pj x0 nx u0 v0:=by show h.rg.set 9 nx=_;rw[hrg];rfl
 obtain⟨h1,e1⟩:∃X:Fq,{h with rg:=h.rg.set (8*1+1) nx}=X:=⟨_,rfl⟩
 have YP:({h with rg:=h.rg.set (8*1+1) nx}:Fq).pH=h.pH:=rfl
 replace R0:Rest d m id {h with rg:=h.rg.set (8*1+1) nx} G A:=R0
 have hsU:({h with rg:=h.rg.set (8*1+1) nx}:Fq).s=h.s:=rfl
 have hEE:({h with rg:=h.rg.set (8*1+1) nx}:Fq).E=h.E:=rfl
 rw[e1]at H R0 X0 hrg0 YP hsU hEE
 clear e1
 rw[←hsU]at hnx
 rw[←YP]at H⊢
 have hAl:=fun{W:World} hE=>aeb (g:=g) (d:=d) (h:=h1) (w:=W) hE R0.ok hg 1 0 Y Y 1 1 3 1 (by rw[R0.mu];rfl) Y Y Y Ak Ak (.inr (R0.room hA))
 refine AX (qw ?_)
 refine Gl (fun f W=>∃(d1:Nv.D) (hs1:List Ob.H3) (S1 E1:IL) (F1:Nat→EP) (Xi:Vf) (a:Nat),TJ m h1.s (512*40) 1 1 3 1 d d1 hs1 S1 E1 F1 Xi a∧GK d1.cache (alQ h1.s hs1 S1 E1 F1 Xi a) (512*40) (fun _=>False)∧f 0=ptr pP∧f 1= .int .u64 v∧f 6= .int .i64 0∧Heap w I [Qu pP h1.pH,grp (Fq.L g d1 {h1 with s:=alQ h1.s hs1 S1 E1 F1 Xi a,rg:=h1.rg.set (8*1+0) (a:Nat),sL:=Bm.put h1.sL (a:Nat) false,M:=NM h1.ph h1.M a})] W) ?_ ?_
 ·refine JQ (A:=[_]) mixed H [0] O ?_;replace H:=H.drew
  refine au ?_
  refine BD 4 O (BL H O (U7 _) (abC O) fun W1 H=>dh ?_)
  refine BD 5 O (s_call O (hAl (H.Bl 1 O)) (aqz O) ?_)
  rintro e W1 ⟨d1,hs1,S1,E1,F1,Xi,a,hP,hal,rfl,H'⟩
  refine⟨_,rfl,?_⟩
  have H:=H.CX 1 rfl H';clear H';simp only[Bv]at H
  refine nU ?_
  exact⟨d1,hs1,S1,E1,F1,Xi,a,hP,hal,rfl,rfl,rfl,H⟩
 clear H
 rintro f W ⟨d1,hs1,S1,E1,F1,Xi,a,hP,hal,f0,f1,f6,H⟩
 obtain⟨f,rfl⟩:=KI f0 f1 f6
 clear f0 f1 f6
 have N1:=aek R0.ok R0.gc hP hal Y Y Y Y (8*1+0)
 have B1:=R0.alloc hP (.inl rfl) Y N1
 have hrg1:({h1 with s:=alQ h1.s hs1 S1 E1 F1 Xi a,rg:=h1.rg.set (8*1+0) (a:Nat),sL:=Bm.put h1.sL (a:Nat) false,M:=NM h1.ph h1.M a}:Fq).rg=Pj a nx u0 v0:=by show h1.rg.set 8 (a:Int)=_;rw[hrg0];rfl
 obtain⟨h2,e2⟩:∃X:Fq,{h1 with s:=alQ h1.s hs1 S1 E1 F1 Xi a,rg:=h1.rg.set (8*1+0) (a:Nat),sL:=Bm.put h1.sL (a:Nat) false,M:=NM h1.ph h1.M a}=X:=⟨_,rfl⟩
 have aoK:({h1 with s:=alQ h1.s hs1 S1 E1 F1 Xi a,rg:=h1.rg.set (8*1+0) (a:Nat),sL:=Bm.put h1.sL (a:Nat) false,M:=NM h1.ph h1.M a}:Fq).pH=h1.pH:=rfl
 have hE2:({h1 with s:=alQ h1.s hs1 S1 E1 F1 Xi a,rg:=h1.rg.set (8*1+0) (a:Nat),sL:=Bm.put h1.sL (a:Nat) false,M:=NM h1.ph h1.M a}:Fq).E=h1.E:=rfl
 rw[e2]at H N1 B1 hrg1 aoK hE2
 clear e2 hP hal
 rw[←aoK]at H⊢
 have hz1:∀i:Nat,i<2→Nv.get d1.cache ((a:Int)+(1+i))=0:=fun i hi=>N1.wz _ Y Y
 have hSt:=fun{W:World} hE=>aiB (g:=g) (d:=d1) (m:=m) (h:=h2) (w:=W) hE B1.ok 1 0 1 Y Y Y 0 a nx zH zH B1.nu (by rw[B1.hp];omega) hnb
 refine AX (qw ?_)
 refine Gl (fun f W=>∃(d2:Nv.D) (sL2 hL2:List Bool) (M2:KF) (zs:List Int),ZB d1 d2 m ((a:Int)+(1+0)).toNat nx∧Gn h2.sB h2.sA h2.sC sL2∧hL2.length=h2.hL.length∧Tz (512*40) 3 h2.s.U h2.M M2 zs∧(h2.ph=1→nx≠0→zs=[nx])∧f 0=ptr pP∧f 1= .int .u64 v∧f 7= .int .i64 0∧Heap w I [Qu pP h2.pH,grp (Fq.L g d2 {h2 with sL:=sL2,hL:=hL2,M:=M2})] W) ?_ ?_
 ·refine JQ (A:=[_]) mixed H [0] O ?_;replace H:=H.drew
  refine au ?_
  refine BD 4 O (BL H O (U7 _) (abC O) fun W1 H=>dh ?_)
  refine BD 5 O (BL H O (abh _) (akw O) fun W1 H=>dh ?_)
  refine BD 6 O (s_call O (hSt (H.Bl 1 O)) (as5 O) ?_)
  rintro e W1 ⟨d2,sL2,hL2,M2,zs,q1,q2,q3,q4,q5,rfl,H'⟩
  refine⟨_,rfl,?_⟩
  have H:=H.CX 1 rfl H';clear H';simp only[Bv]at H
  refine iT ?_
  exact⟨d2,sL2,hL2,M2,zs,q1,q2,q3,q4,q5,rfl,rfl,rfl,H⟩
 clear H
 rintro f W ⟨d2,sL2,hL2,M2,zs,hs,q2,q3,q4,q5,f0,f1,f7,H⟩
 obtain⟨f,rfl⟩:=KI f0 f1 f7
 clear f0 f1 f7
 have hbd:=B1.ok.bd B1.nu
 have hml:=B1.ok.dev.hm
 obtain⟨_,_,_,_,_,_,o4,o5⟩:=B1.ok.al.obj B1.ok.dev.dv.U B1.nu
 rw[B1.ok.sn]at o5
 have ae4:RX d1.cache a=3:=by unfold RX;rw[B1.hp,B1.hq];omega
 rw[ae4]at o4
 have hg2:∀t,Nv.get d2.cache t=if t=(a:Int)+1 then nx else Nv.get d1.cache t:=fun t=>by
  rw[hs.get Y B1.ok.dev.dv.len,FY Y]
  rfl
 have hp2:Ob.hp d2.cache a=1:=by
  have:=(Ph (c:=d1.cache) (c':=d2.cache) (a:=a) (by rw[hs.D.len,B1.ok.dev.dv.len]) (by rw[hg2,if_neg Y])).2.1
  rw[this];exact B1.hp
 have s2:=afH (G:=fun t=>G t∨t=a) B1.ok B1.nu (x:=(a:Int)+(1+0)) (by rw[ae4];omega) hs q2 q3 q4 B1.gc (fun hp1 t ht hu2=>by
  unfold Ob.ptrs Ob.LM at ht⊢
  rw[hp2]at ht
  obtain⟨j,hj,rfl⟩:=DN.1 ht
  have hjr:=Fg.1 hj
  obtain rfl:j=0:=Y
  have e1:Ob.UL d2.cache ((a:Int)+(1+((0:Nat):Int)))=nx:=by unfold Ob.UL;rw[hg2,if_pos Y,Int.min_eq_left Y]
  rw[e1]at hu2⊢
  by_cases h0:nx=0
  ·rw[h0]at hu2;have:=B1.ok.none;rw[this]at hu2;cases hu2
  ·exact .inr (q4.got nx (by rw[q5 hp1 h0];simp) hu2))
 have B2:=B1.WZ R0.ok s2 hs.D rfl
 have hrg2:({h2 with sL:=sL2,hL:=hL2,M:=M2}:Fq).rg=Pj a nx u0 v0:=hrg1
 have aok:({h2 with sL:=sL2,hL:=hL2,M:=M2}:Fq).pH=h2.pH:=rfl
 have hE3:({h2 with sL:=sL2,hL:=hL2,M:=M2}:Fq).E=h2.E:=rfl
 obtain⟨h3,e3⟩:∃X:Fq,{h2 with sL:=sL2,hL:=hL2,M:=M2}=X:=⟨_,rfl⟩
 rw[e3]at H B2 hrg2 aok hE3
 clear e3 s2
 rw[←aok]at H⊢
 have hSd:=fun{W:World} hE=>YH (g:=g) (d:=d2) (m:=m) (h:=h3) (w:=W) hE B2.ok 1 0 Y Y 0 v a (by rw[hrg2];rfl) B2.nu (by rw[B2.hq];omega) hv
 rw[B2.hp]at hSd
 refine AX (qw ?_)
 refine Gl (fun f W=>∃(d3:Nv.D),ZB d2 d3 m ((a:Int)+(1+1+0)).toNat v∧f 0=ptr pP∧f 8= .int .i64 0∧Heap w I [Qu pP h3.pH,grp (Fq.L g d3 h3)] W) ?_ ?_
 ·refine JQ (A:=[_]) mixed H [0] O ?_;replace H:=H.drew
  refine au ?_
  refine lu ?_
  refine BL H O (U7 _) (abC O) fun W1 H=>dh ?_
  refine BD 6 O (s_call O (hSd (H.Bl 1 O)) (aqZ O) ?_)
  rintro e W1 ⟨d3,q1,rfl,H'⟩
  refine⟨_,rfl,?_⟩
  have H:=H.CX 1 rfl H';clear H';simp only[Bv]at H
  refine iT ?_
  exact⟨d3,q1,rfl,rfl,H⟩
 clear H
 rintro f W ⟨d3,st3,f0,f8,H⟩
 obtain⟨f,rfl⟩:=LZ f0 f8
 clear f0 f8
 have asZ:RX d2.cache a=3:=by unfold RX;rw[B2.hp,B2.hq];omega
 have hg3:∀t,Nv.get d3.cache t=if t=(a:Int)+2 then v else Nv.get d2.cache t:=fun t=>by
  rw[st3.get Y B2.ok.dev.dv.len,FY Y]
  rfl
 have axl:ZB d2 d3 m ((a:Int)+2).toNat v:=st3
 have awi:Ob.ptrs d3.cache a=Ob.ptrs d2.cache a:=by
  have hpp:Ob.hp d3.cache a=1:=by
   have:=(Ph (c:=d2.cache) (c':=d3.cache) (a:=a) (by rw[st3.D.len,B2.ok.dev.dv.len]) (by rw[hg3,if_neg Y])).2.1
   rw[this];exact B2.hp
  unfold Ob.ptrs Ob.LM
  rw[hpp,B2.hp]
  refine JA fun j hj=>?_
  have:=Fg.1 hj
  unfold Ob.UL
  rw[hg3,if_neg Y]
 have s3:=afH B2.ok B2.nu (x:=(a:Int)+2) (by rw[asZ];omega) axl B2.ok.ss rfl (Tz.refl (zs:=[]) B2.ok.mg J) B2.gc (fun _ t ht _=> .inl (by rw[←awi];exact ht))
 have B3:=B2.WZ R0.ok s3 st3.D rfl
 replace B3:Bld d d3 h1 h3 m id _ (A+1) a 1 1:=B3
 have hPe:=fun{W:World} hE=>ade (g:=g) (d:=d3) (m:=m) (h:=h3) (w:=W) hE B3.ok hg 1 0 Y Y a (by rw[hrg2];rfl) B3.nu
 refine AX (qw ?_)
 refine Gl (fun f W=>∃(d4:Nv.D),Per d3 d4 m (a:Int).toNat (1+Ob.hp d3.cache a+Ob.hq d3.cache a).toNat∧f 0=ptr pP∧f 9= .int .i64 0∧Heap w I [Qu pP h3.pH,grp (Fq.L g d4 h3)] W) ?_ ?_
 ·refine JQ (A:=[_]) mixed H [0] O ?_;replace H:=H.drew
  refine au ?_
  refine BD 4 O (BL H O (U7 _) (abC O) fun W1 H=>dh ?_)
  refine BD 5 O (s_call O (hPe (H.Bl 1 O)) (atY O) ?_)
  rintro e W1 ⟨d4,q1,rfl,H'⟩
  refine⟨_,rfl,?_⟩
  have H:=H.CX 1 rfl H';clear H';simp only[Bv]at H
  refine nU ?_
  exact⟨d4,q1,rfl,rfl,H⟩
 clear H
 rintro f W ⟨d4,p4,f0,f9,H⟩
 obtain⟨f,rfl⟩:=LZ f0 f9
 clear f0 f9
 obtain⟨R4,X4⟩:=B3.per Y p4
 have w4:∀t,Nv.get d4.cache t=if t=(a:Int)+2 then v else if t=(a:Int)+1 then nx else Nv.get d1.cache t:=fun t=>by rw[p4.c,hg3,hg2]
 have hPn:Pn h3.s.U d4.cache a nx v:=⟨B3.nu,by rw[p4.c];exact B3.hp,by rw[p4.c];exact B3.hq,by unfold Ob.UL;rw[w4,if_neg Y,if_pos rfl,Int.min_eq_left Y],by rw[w4,if_pos rfl]⟩
 have hfr:=B3.fr
 have hSr:=fun{W:World} hE=>VF (g:=g) (d:=d4) (h:=h3) (w:=W) hE R4.ok 1 0 Y Y 2 Y a (by rw[hrg2];rfl) Y
 refine AX (qw ?_)
 refine Gl (fun f W=>∃(NC:List Bool) (M':KF) (zs:List Int),Gn h3.sB h3.sA h3.sC NC∧Tz (512*40) 3 h3.s.U h3.M M' zs∧f 0=ptr pP∧f 10= .int .i64 0∧Heap w I [Qu pP h3.pH,grp (Fq.L g d4 {h3 with V:=h3.V.set 2 a,sL:=NC,M:=M'})] W) ?_ ?_
 ·refine JQ (A:=[_]) mixed H [0] O ?_;replace H:=H.drew
  refine au ?_
  refine gB ?_
  refine CZ 6 O O O (fun _ hS=>Cm O Qh) (H.BQ [0] O O) (mG ?_)
  refine BL H O (U7 _) (abC O) fun W1 H=>oD ?_
  rintro e W1 ⟨NC,M',zs,q1,q2,rfl,H'⟩
  refine⟨_,rfl,?_⟩
  have H:=H.CX 1 rfl H';clear H';simp only[Bv]at H
  refine dh ?_
  refine dP ?_
  exact⟨NC,M',zs,q1,q2,rfl,rfl,H⟩
 clear H
 rintro f W ⟨NC,M',zs',q1',q2',f0,f10,H⟩
 obtain⟨f,rfl⟩:=LZ f0 f10
 clear f0 f10
 have R5:=R4.root q1' q2' 2 (v:=a) Y
 have hCm:=fun{W:World} hE=>Yi (g:=g) (d:=d4) (h:={h3 with V:=h3.V.set 2 a,sL:=NC,M:=M'}) (w:=W) hE R5.ok hg zL
 replace hCm:∀{W:World} (hE:Dj (Fq.L g d4 {h3 with V:=h3.V.set 2 a,sL:=NC,M:=M'}) W),Calls prog 42 [ptr h3.pH].toArray W _:=hCm
 refine AX (kK ?_)
 refine dL ?_
 refine BI O IB (qo ?_)
 rintro e W1 ⟨d5,l5,hcm,hl5,rfl,H'⟩
 refine⟨_,rfl,?_⟩
 have H:=H.CX 1 rfl H';clear H';simp only[Bv]at H;obtain⟨R6,sm6⟩:=R5.commit zL hl5 hcm
 refine xA ?_
 refine ahX (v:= .int _ _) func68 Aw Aw O O (aeH O H.ents R6 hrg2) ?_
 rintro e W1 ⟨⟨v9,rfl⟩,H'⟩
 refine⟨⟨_,rfl⟩,?_⟩
 have H:=H.whole H';clear H'
 have O6:Yz d4 d5 h3 {h3 with V:=h3.V.set 2 a,sL:=NC,M:=M',E:=h3.E+1,R:=h3.V.set 2 a,k:=1-h3.k,hL:=l5} 2 a:=⟨fun _ h=>h,sm6,rfl,rfl,rfl,rfl,rfl⟩
 have O5:=Yz.pre X0 (Yz.pre X4 O6 R0.ok R4.ok.dev.dv) R.ok R0.ok.dev.dv
 rw[hsU]at hfr
 exact⟨d5,_,a,R6.rg1 hrg2,O5.regs _,hfr,hPn.sm R4.ok R6.ok.dev.dv (sm6 _ hPn.us) hPn.us,rfl,rfl,H⟩
end
end
end
section
section
open Go.RowKit
section
variable{g:Geo}{d:Nv.D}{m:Nat}{id:Int}{h:Fq}{pP:Nat}{w:World}{G:Int→Prop}{A:Nat}
theorem asI(hE:Dj [Qu pP h.pH,grp (h.L g d)] w)(R:Rest d m id h G A){x0 y0 u0 v0:Int}(hrg:h.rg=Pj x0 y0 u0 v0)(hV:h.V.getD 2 0=0):
 Calls prog 19 [ptr pP].toArray w fun e w'=>e= .returned (.tuple #[.int .u64 (0:Nat),.int .i64 (42:Nat)])∧Heap w (ids [Qu pP h.pH,grp (h.L g d)]) [Qu pP h.pH,grp (Fq.L g d {h with rg:=Pj 0 0 u0 v0})] w':=by
 have H:=Heap.start hE
 have hRo:=fun{W:World} hE=>agW (g:=g) (d:=d) (h:=h) (w:=W) hE R.ok 1 0 Y Y 2 Y 0 hV
 have R0:Rest d m id {h with rg:=h.rg.set (8*1+0) 0} G A:=R.reg 8 (a:=0) Y
 have hrg0:({h with rg:=h.rg.set (8*1+0) 0}:Fq).rg=Pj 0 y0 u0 v0:=by show h.rg.set 8 0=_;rw[hrg];rfl
 generalize ids [Qu pP h.pH,grp (h.L g d)]=I at*
 refine acO (N:=71) func19 O O O (AP (kG ?_))
 refine mQ ?_
 refine A8 (A8 ?_)
 refine Gl (fun f W=>f 0=ptr pP∧f 4= .int .i64 0∧Heap w I [Qu pP h.pH,grp (Fq.L g d {h with rg:=h.rg.set (8*1+0) 0})] W) ?_ ?_
 ·refine JQ (A:=[_]) mixed H [0] O ?_;replace H:=H.drew
  refine dU ?_
  refine BL H O (U7 _) (abC O) fun W1 H=>vX ?_
  rintro e W1 ⟨rfl,H'⟩
  refine⟨_,rfl,?_⟩
  have H:=H.CX 1 rfl H';clear H';simp only[Bv]at H
  refine dh ?_
  refine dP ?_
  exact⟨rfl,rfl,H⟩
 clear H
 rintro f W ⟨f0,f4,H⟩
 obtain⟨f,rfl⟩:=LZ f0 f4
 clear f0 f4
 have hDa:=fun{W:World} hE=>apc (g:=g) (d:=d) (h:={h with rg:=h.rg.set (8*1+0) 0}) (w:=W) hE R0.ok 1 0 Y Y 0 (by rw[hrg0];rfl)
 refine AX (kK ?_)
 refine A8 ?_
 refine Gl (fun f W=>f 0=ptr pP∧f 6= .int .i64 6∧Heap w I [Qu pP h.pH,grp (Fq.L g d {h with rg:=h.rg.set (8*1+0) 0})] W) ?_ ?_
 ·refine JQ (A:=[_]) mixed H [0] O ?_;replace H:=H.drew
  refine au ?_
  refine BD 4 O (BL H O (U7 _) (abC O) fun W1 H=>dh ?_)
  refine BD 5 O (BL H O (hDa (H.Bl 1 O)) (auS O) fun W1 H=>iJ ?_)
  exact⟨rfl,rfl,H⟩
 clear H
 rintro f W ⟨f0,f6,H⟩
 obtain⟨f,rfl⟩:=LZ f0 f6
 clear f0 f6
 refine AX (iQ ?_)
 refine AO (E8 (AP (iq ?_)))
 refine pJ ?_
 refine kG ?_
 refine BM (F8 (Dx (apW (v:= .int _ _) (v2:= .int _ _) func68 Aw Aw O O O (aeH O H.ents R0 hrg0) ?_)))
 rintro e W1 ⟨⟨v9,rfl⟩,H'⟩
 refine⟨⟨_,rfl⟩,?_⟩
 have H:=H.whole H';clear H'
 exact⟨rfl,H⟩
theorem as8(hE:Dj [Qu pP h.pH,grp (h.L g d)] w)(R:Rest d m id h G A)(hg:Q5 g m)(hE9:h.E≤999){x0 y0 u0 v0:Int}(hrg:h.rg=Pj x0 y0 u0 v0){a nx v:Int}(hV:h.V.getD 2 0=a)(hP:Pn h.s.U d.cache a nx v)(hnx:nx=0∨Ee h.s.U nx=true):
 Calls prog 19 [ptr pP].toArray w fun e w'=>∃(d':Nv.D) (h':Fq),Rest d' m id h' G A∧Yz d d' h h' 2 nx∧h'.rg=Pj 0 0 u0 v0∧e= .returned (.tuple #[.int .u64 v,.int .i64 (0:Nat)])∧Heap w (ids [Qu pP h.pH,grp (h.L g d)]) [Qu pP h.pH,grp (h'.L g d')] w':=by
 have H:=Heap.start hE
 have hbd:=R.ok.bd hP.us
 have hnb:0≤nx∧nx<131072:=by
  rcases hnx with e|e
  ·omega
  ·have:=R.ok.bd e;omega
 have hRo:=fun{W:World} hE=>agW (g:=g) (d:=d) (h:=h) (w:=W) hE R.ok 1 0 Y Y 2 Y a hV
 have R0:Rest d m id {h with rg:=h.rg.set (8*1+0) a} G A:=R.reg 8 (a:=a) Y
 have hrg0:({h with rg:=h.rg.set (8*1+0) a}:Fq).rg=Pj a y0 u0 v0:=by show h.rg.set 8 a=_;rw[hrg];rfl
 generalize ids [Qu pP h.pH,grp (h.L g d)]=I at*
 refine acO (N:=71) func19 O O O (AP (kG ?_))
 refine mQ ?_
 refine A8 (A8 ?_)
 refine Gl (fun f W=>f 0=ptr pP∧f 4= .int .i64 0∧Heap w I [Qu pP h.pH,grp (Fq.L g d {h with rg:=h.rg.set (8*1+0) a})] W) ?_ ?_
 ·refine JQ (A:=[_]) mixed H [0] O ?_;replace H:=H.drew
  refine dU ?_
  refine BL H O (U7 _) (abC O) fun W1 H=>vX ?_
  rintro e W1 ⟨rfl,H'⟩
  refine⟨_,rfl,?_⟩
  have H:=H.CX 1 rfl H';clear H';simp only[Bv]at H
  refine dh ?_
  refine dP ?_
  exact⟨rfl,rfl,H⟩
 clear H
 rintro f W ⟨f0,f4,H⟩
 obtain⟨f,rfl⟩:=LZ f0 f4
 clear f0 f4
 have hDa:=fun{W:World} hE=>ar' (g:=g) (d:=d) (h:={h with rg:=h.rg.set (8*1+0) a}) (w:=W) hE R0.ok 1 0 Y Y 0 a (by rw[hrg0];rfl) hP.us (by rw[hP.hq];omega)
 rw[hP.hp,show a+(1+1+0)=a+2 by omega,hP.v]at hDa
 have hLo:=fun{W:World} hE=>aq9 (g:=g) (d:=d) (h:={h with rg:=h.rg.set (8*1+0) a}) (w:=W) hE R0.ok 1 0 1 Y Y Y 0 a (by rw[hrg0];rfl) hP.us (by rw[hP.hp];omega)
 rw[show a+(1+(0:Int))=a+1 by omega,hP.l]at hLo
 refine AX (kK ?_)
 refine A8 ?_
 refine Gl (fun f W=>f 0=ptr pP∧f 5= .int .u64 v∧f 6= .int .i64 0∧Heap w I [Qu pP h.pH,grp (Fq.L g d {h with rg:=h.rg.set (8*1+0) a})] W) ?_ ?_
 ·refine JQ (A:=[_]) mixed H [0] O ?_;replace H:=H.drew
  refine au ?_
  refine BD 4 O (BL H O (U7 _) (abC O) fun W1 H=>dh ?_)
  refine BD 5 O (BL H O (hDa (H.Bl 1 O)) (auS O) fun W1 H=>iJ ?_)
  exact⟨rfl,rfl,rfl,H⟩
 clear H
 rintro f W ⟨f0,f5,f6,H⟩
 obtain⟨f,rfl⟩:=KI f0 f5 f6
 clear f0 f5 f6
 refine AX (iQ ?_)
 refine AO (E8 (AP (iO ?_)))
 refine AO (EF O (Bj (CS (AX (A8 (A8 ?_))))))
 refine Gl (fun f W=>f 0=ptr pP∧f 5= .int .u64 v∧f 7= .int .i64 0∧Heap w I [Qu pP h.pH,grp (Fq.L g d {h with rg:=(h.rg.set (8*1+0) a).set (8*1+1) nx})] W) ?_ ?_
 ·refine JQ (A:=[_]) mixed H [0] O ?_;replace H:=H.drew
  refine au ?_
  refine BD 4 O (BL H O (abh _) (akw O) fun W1 H=>dh ?_)
  refine BD 5 O (BL H O (U7 _) (abC O) fun W1 H=>dh ?_)
  refine BD 6 O (s_call O (hLo (H.Bl 1 O)) (aww O) ?_)
  rintro e W1 ⟨rfl,H'⟩
  refine⟨_,rfl,?_⟩
  have H:=H.CX 1 rfl H';clear H';simp only[Bv]at H
  refine iT ?_
  exact⟨rfl,rfl,rfl,H⟩
 clear H
 rintro f W ⟨f0,f5,f7,H⟩
 obtain⟨f,rfl⟩:=KI f0 f5 f7
 clear f0 f5 f7
 have R1:Rest d m id {h with rg:=(h.rg.set (8*1+0) a).set (8*1+1) nx} G A:=R0.reg 9 (a:=nx) hnb
 have hrg1:({h with rg:=(h.rg.set (8*1+0) a).set (8*1+1) nx}:Fq).rg=Pj a nx u0 v0:=by show(h.rg.set 8 a).set 9 nx=_;rw[hrg];rfl
 have X1:Ext d d h {h with rg:=(h.rg.set (8*1+0) a).set (8*1+1) nx}:=⟨fun _ h=>h,fun _ _ _ _ _=>rfl,rfl,rfl⟩
 have YP:({h with rg:=(h.rg.set (8*1+0) a).set (8*1+1) nx}:Fq).pH=h.pH:=rfl
 have hEE:({h with rg:=(h.rg.set (8*1+0) a).set (8*1+1) nx}:Fq).E=h.E:=rfl
 obtain⟨h3,e3⟩:∃X:Fq,{h with rg:=(h.rg.set (8*1+0) a).set (8*1+1) nx}=X:=⟨_,rfl⟩
 rw[e3]at H R1 hrg1 X1 YP hEE
 clear e3 R0 hrg0
 rw[←YP]at H⊢
 have hSr:=fun{W:World} hE=>VF (g:=g) (d:=d) (h:=h3) (w:=W) hE R1.ok 1 1 Y Y 2 Y nx zH hnb
 refine AX (qw ?_)
 refine Gl (fun f W=>∃(NC:List Bool) (M':KF) (zs:List Int),Gn h3.sB h3.sA h3.sC NC∧Tz (512*40) 3 h3.s.U h3.M M' zs∧f 0=ptr pP∧f 5= .int .u64 v∧f 8= .int .i64 0∧Heap w I [Qu pP h3.pH,grp (Fq.L g d {h3 with V:=h3.V.set 2 nx,sL:=NC,M:=M'})] W) ?_ ?_
 ·refine JQ (A:=[_]) mixed H [0] O ?_;replace H:=H.drew
  refine au ?_
  refine gB ?_
  refine CZ 6 O O O (fun _ hS=>Cm O Qh) (H.BQ [0] O O) (mG ?_)
  refine BL H O (abh _) (akw O) fun W1 H=>oD ?_
  rintro e W1 ⟨NC,M',zs,q1,q2,rfl,H'⟩
  refine⟨_,rfl,?_⟩
  have H:=H.CX 1 rfl H';clear H';simp only[Bv]at H
  refine dh ?_
  refine dP ?_
  exact⟨NC,M',zs,q1,q2,rfl,rfl,rfl,H⟩
 clear H
 rintro f W ⟨NC,M',zs',q1',q2',f0,f5,f8,H⟩
 obtain⟨f,rfl⟩:=KI f0 f5 f8
 clear f0 f5 f8
 have R5:=R1.root q1' q2' 2 (v:=nx) hnb
 have hCm:=fun{W:World} hE=>Yi (g:=g) (d:=d) (h:={h3 with V:=h3.V.set 2 nx,sL:=NC,M:=M'}) (w:=W) hE R5.ok hg zL
 replace hCm:∀{W:World} (hE:Dj (Fq.L g d {h3 with V:=h3.V.set 2 nx,sL:=NC,M:=M'}) W),Calls prog 42 [ptr h3.pH].toArray W _:=hCm
 refine AX (kK ?_)
 refine jW ?_
 refine BI O IB (qo ?_)
 rintro e W1 ⟨d5,l5,hcm,hl5,rfl,H'⟩
 refine⟨_,rfl,?_⟩
 have H:=H.CX 1 rfl H';clear H';simp only[Bv]at H;obtain⟨R6,sm6⟩:=R5.commit zL hl5 hcm
 refine vH ?_
 refine AP (AQ O (kG ?_))
 refine BM (apW (v:= .int _ _) (v2:= .int _ _) func68 Aw Aw O O O (aeH O H.ents R6 hrg1) ?_)
 rintro e W1 ⟨⟨v9,rfl⟩,H'⟩
 refine⟨⟨_,rfl⟩,?_⟩
 have H:=H.whole H';clear H'
 have O6:Yz d d5 h3 {h3 with V:=h3.V.set 2 nx,sL:=NC,M:=M',E:=h3.E+1,R:=h3.V.set 2 nx,k:=1-h3.k,hL:=l5} 2 nx:=⟨fun _ h=>h,sm6,rfl,rfl,rfl,rfl,rfl⟩
 exact⟨d5,_,R6.rg1 hrg1,(Yz.pre X1 O6 R.ok R.ok.dev.dv).regs _,rfl,rfl,H⟩
end
end
end
section
section
open Go.RowKit
theorem atL(p:Nat)(w:World):Calls prog 89 [ptr p].toArray w fun e w'=>∃q,e= .returned (.func (.func 153) #[] [pt q].toArray)∧Heap w [] [blk q [ptr p] 51] w':=by
 have H:=Heap.nil w
 refine BO 4 func89 O (AP (WU H O O O ?_))
 intro p1 _ H';clear H;have H:=H';clear H'
 refine qH ?_
 exact⟨_,rfl,H⟩
section
variable{g:Geo}{d:Nv.D}{m:Nat}{id:Int}{h:Fq}{pP:Nat}{w:World}{G:Int→Prop}{A:Nat}
theorem ath{q:Nat}(hO:F6 d m 40 id h)(l:List (Int×Int))(hl:Pl.At h.s.U d.cache l)(hV:h.V.getD 2 0=Pl.IU l)(B:List Nat)(W:World)(hE:Dj [blk q [ptr pP] 51,Qu pP h.pH,grp (h.L g d)] W)(hB:∀i∈ids [blk q [ptr pP] 51,Qu pP h.pH,grp (h.L g d)],i∉B):
 aru prog 153 [pt q].toArray (fun x:Int=> #[.int .u64 x]) (l.map (·.2)) B W:=by
 intro y Az W0 hB1 hy1 hy2 hJ hY hJ0
 refine(callsIn_wide (n:=4)).2 ?_
 have hno:∀i∈ids [blk q [ptr pP] 51,Qu pP h.pH,grp (h.L g d)],i∉y::B:=fun i hi hm=>by
  rcases Dh.1 hm with e|e
  ·have:=(Heap.start hE).aaQ i hi;omega
  ·exact hB i hi e
 have hE1:Dj [blk q [ptr pP] 51,Qu pP h.pH,grp (h.L g d)] W0:=((Heap.start hE).same (Only.of_below hB1 [])).ents
 clear hE hB hB1
 rw[abx]
 obtain⟨v0,v1,v2,v3,v4,v5,v6,v7,hV8⟩:=Nu hO.V8.1
 have hVm:(h.V.map (Value.int .i64))=[.int .i64 v0,.int .i64 v1,.int .i64 v2,.int .i64 v3,.int .i64 v4,.int .i64 v5,.int .i64 v6,.int .i64 v7]:=by rw[hV8];rfl
 have hW:=fun{W:World} hE=>acF (g:=g) (d:=d) (h:=h) (w:=W) hE hO
 rw[hVm]at hW
 rw[hV8]at hV
 obtain rfl:v2=Pl.IU l:=hV
 have hSp:=fun{W:World} hE=>aea (g:=g) (d:=d) (h:=h) (w:=W) hE
 have hDv:=fun{W:World} hE=>aa9 (g:=g) (d:=d) (h:=h) (w:=W) hE
 have HR:=Heap.start hE1
 have H:=Heap.nil W0
 refine BO 53 func153 O (AP (tN ?_))
 refine BL H O (hDv ((HR.same H.only).Bl 2 O)) (aqI O) fun W1 H=>Fb O (AO (A8 ?_))
 refine Gl (fun f W=>f 0= .func (.yield y) #[] #[]∧f 1=pt q∧f 3=ptr g.p∧f 4= .int .i64 (Pl.IU l)∧Heap W0 [] [] W) ?_ ?_
 ·refine G5 mixed ?_;replace H:=H.drew
  refine Et 0 5 ?_ ?_
  ·refine CB O (lK ?_)
   refine Et 3 5 ?_ ?_
   ·refine CB O (lI ?_)
    refine ak ?_
    refine Et 4 5 ?_ ?_
    ·refine CB O (BL H O (hW ((HR.same H.only).Bl 2 O)) (Tc O) fun W1 H=>oW ?_)
     refine iR ?_
     refine BD 8 O (kX ?_)
     refine aH ?_
     exact⟨rfl,rfl,rfl,rfl,H⟩
    ·refine CB O (iR ?_)
     refine Et 4 8 ?_ ?_
     ·refine CB O (BL H O (hW ((HR.same H.only).Bl 2 O)) (Tc O) fun W1 H=>rY ?_)
      refine kX ?_
      refine aH ?_
      exact⟨rfl,rfl,rfl,rfl,H⟩
     ·refine CB O (kX ?_)
      refine jd ?_
      refine BL H O (hW ((HR.same H.only).Bl 2 O)) (Tc O) fun W1 H=>aH ?_
      exact⟨rfl,rfl,rfl,rfl,H⟩
   ·refine CB O (iR ?_)
    refine Et 3 8 ?_ ?_
    ·refine CB O (lI ?_)
     refine ak ?_
     refine Et 4 8 ?_ ?_
     ·refine CB O (BL H O (hW ((HR.same H.only).Bl 2 O)) (Tc O) fun W1 H=>rY ?_)
      refine kX ?_
      refine aH ?_
      exact⟨rfl,rfl,rfl,rfl,H⟩
     ·refine CB O (kX ?_)
      refine jd ?_
      refine BL H O (hW ((HR.same H.only).Bl 2 O)) (Tc O) fun W1 H=>aH ?_
      exact⟨rfl,rfl,rfl,rfl,H⟩
    ·refine CB O (kX ?_)
     refine lY ?_
     refine lI ?_
     refine jd ?_
     refine BL H O (hW ((HR.same H.only).Bl 2 O)) (Tc O) fun W1 H=>aH ?_
     exact⟨rfl,rfl,rfl,rfl,H⟩
  ·refine CB O (iR ?_)
   refine Et 0 8 ?_ ?_
   ·refine CB O (lK ?_)
    refine Et 3 8 ?_ ?_
    ·refine CB O (lI ?_)
     refine ak ?_
     refine Et 4 8 ?_ ?_
     ·refine CB O (BL H O (hW ((HR.same H.only).Bl 2 O)) (Tc O) fun W1 H=>rY ?_)
      refine kX ?_
      refine aH ?_
      exact⟨rfl,rfl,rfl,rfl,H⟩
     ·refine CB O (kX ?_)
      refine jd ?_
      refine BL H O (hW ((HR.same H.only).Bl 2 O)) (Tc O) fun W1 H=>aH ?_
      exact⟨rfl,rfl,rfl,rfl,H⟩
    ·refine CB O (kX ?_)
     refine lY ?_
     refine lI ?_
     refine jd ?_
     refine BL H O (hW ((HR.same H.only).Bl 2 O)) (Tc O) fun W1 H=>aH ?_
     exact⟨rfl,rfl,rfl,rfl,H⟩
   ·refine CB O (kX ?_)
    refine ak ?_
    refine BD 0 O (lK ?_)
    refine BD 3 O (lI ?_)
    refine jd ?_
    refine BL H O (hW ((HR.same H.only).Bl 2 O)) (Tc O) fun W1 H=>aH ?_
    exact⟨rfl,rfl,rfl,rfl,H⟩
 clear H
 rintro f W ⟨f0,f1,f3,f4,H⟩
 obtain⟨f,rfl⟩:=Jj f0 f1 f3 f4
 clear f0 f1 f3 f4
 have hJ2:=hJ _ _ _ [] hJ0 H.only J
 have hE2:=(HR.same H.only).ents
 clear H HR hJ0 hE1
 refine AX (E8 (EO (fun z f W=>∃(pre r:List (Int×Int)),l=pre++r∧z=r.length∧Pl.At h.s.U d.cache r∧f 0= .func (.yield y) #[] #[]∧f 1=pt q∧f 3=ptr g.p∧f 4= .int .i64 (Pl.IU r)∧Az (pre.map (·.2)) W∧Dj [blk q [ptr pP] 51,Qu pP h.pH,grp (h.L g d)] W) l.length ⟨[],l,rfl,rfl,hl,rfl,rfl,rfl,rfl,hJ2,hE2⟩ ?_))
 clear hJ2 hE2
 rintro z f W ⟨pre,r,hpr,rfl,hr,f0,f1,f3,f4,hJ0,hE1⟩
 obtain⟨f,rfl⟩:=Jj f0 f1 f3 f4
 clear f0 f1 f3 f4
 have HR:=Heap.start hE1
 have H:=Heap.nil W
 have XF:=fun{W:World} hE=>abq (g:=g) (s:=h.s) (w:=W) hE hO.al.su (Pl.IU r)
 have hal:=fun{W2:World} (H:Heap W [] [] W2)=>(Heap.start ((HR.same H.only).Bl 2 rfl)).ar6 1 rfl
 have hdv:=fun{W2:World} (H:Heap W [] [] W2)=>(Heap.start ((HR.same H.only).Bl 2 rfl)).abu 1 rfl
 cases r with
 |nil=>
  have hz:Ee h.s.U (Pl.IU [])=false:=hO.none
  rw[hz]at XF
  rw[hpr,Dl]
  refine A8 (AP (tN ?_))
  refine BL H O (hSp ((HR.same H.only).Bl 2 O)) (amO O) fun W1 H=>AQ O (BL H O (XF (hal H)) (UD O) fun W1 H=>AO (DC O (Eo (CY (CY (Fv (fin0 O ?_)))))))
  exact⟨⟨_,rfl⟩,hJ _ _ _ [] hJ0 H.only J⟩
 |cons p r=>
  obtain⟨hn,hu,hr'⟩:=hr
  have hdl:=hO.dev.len
  rw[show Ee h.s.U (Pl.IU (p::r))=true from hn.us]at XF
  have hDa:=fun{W:World} hE=>ahx (g:=g) (d:=d) (w:=W) hE hO.dev.dv.U Y p.1 0 (hO.hh _ hn.us) (by rw[hn.hq];omega)
  rw[hn.hp,show p.1+(1+1+(0:Int))=p.1+2 by omega,hn.v]at hDa
  have hPt:=fun{W:World} hE=>agv (g:=g) (d:=d) (w:=W) hE hO.dev.dv.U Y p.1 0 (hO.hh _ hn.us) (by rw[hn.hp];omega)
  rw[show p.1+(1+(0:Int))=p.1+1 by omega,hn.l]at hPt
  have hlen:(pre.map (·.2)).length<(l.map (·.2)).length:=by rw[hpr];simp
  refine A8 (AP (tN ?_))
  refine BL H O (hSp ((HR.same H.only).Bl 2 O)) (amO O) fun W1 H=>AQ O (BL H O (XF (hal H)) (UD O) fun W1 H=>AO (EF O (Bj (AX (E8 (eH ?_))))))
  refine BL H O (hDa (hdv H)) (aiN O) fun W1 H=>jP ?_
  refine AO (A8 (A8 (ala Aw (PG O O (Gm O) (PG O O (Dc O O Y) (PG O O (Yq O) (PG O (ET 38 Aw O) (Cc (v:= .func _ _ _) O) (PG O (ET 38 Aw O) (Gm O) (aeA (ET 38 Aw O) O O (hY _ p.2 _ (hJ _ _ _ [] hJ0 H.only J) hlen) ?_)))))))))
  rintro e W2 ⟨rfl,hJ1,hk1⟩
  refine⟨_,rfl,?_⟩
  have hE2:=((HR.same H.only).ents).wide hk1 hno
  clear H HR hE1 hJ0 XF hal hdv
  have HR:=Heap.start hE2
  have H:=Heap.nil W2
  have hdv:=fun{W3:World} (H:Heap W2 [] [] W3)=>(Heap.start ((HR.same H.only).Bl 2 rfl)).abu 1 rfl
  refine PG O (ET 38 Aw O) (Ea O) (PG O O (LV (v:= .bool _) O O) (aiT (AX (DC O (Bj (AX (eH ?_)))))))
  refine BL H O (hPt (hdv H)) (acS O) fun W1 H=>pG ?_
  refine DF (AQ O (AY O (AZ (CS (Dk ?_)))))
  exact⟨_,_,by rw[Es];omega,rfl,pre++ [p],r,by rw[hpr,EK];rfl,rfl,hr',rfl,rfl,rfl,rfl,hJ _ _ _ [] (by rw[EY];exact hJ1) H.only J,(HR.same H.only).ents⟩
theorem auO(hE:Dj [Qu pP h.pH,grp (h.L g d)] w)(hO:F6 d m 40 id h)(l:List (Int×Int))(hl:Pl.At h.s.U d.cache l)(hV:h.V.getD 2 0=Pl.IU l)(hll:l.length≤1000):Calls prog 25 [ptr pP].toArray w fun e w'=>e= .returned (.int .i64 l.length)∧Only [] w w':=by
 have H:=Heap.nil w
 refine amE (N:=10) func25 O O O (oM ?_)
 refine AP (akk H O JH O ?_)
 intro p3 _ H';clear H;have H:=H';clear H'
 refine dI ?_
 clear H;refine axS fun _ H=>?_
 refine AO (A8 (AP (Bg O (s_call O (atL pP _) (awM O) ?_))))
 rintro e W1 ⟨q,rfl,H'⟩
 refine⟨_,rfl,?_⟩
 have H:=H.more H';clear H'
 refine AO (E8 ?_)
 have hO2:=H.only
 have H2:=VL hE H
 replace H2:Heap w _ ([blk p3 [.int .i64 ((([]:List Int).length:Nat):Int)] 3]++ [blk q [ptr pP] 51,Qu pP h.pH,grp (h.L g d)]) _:=H2.order [1,0,2,3] rfl rfl
 have HK:Dj [blk q [ptr pP] 51,Qu pP h.pH,grp (h.L g d)] _:=(H2.order [1,2,3,0] rfl rfl:Heap w _ ([_,_,_]++ [_]) _).part
 have hdis:∀i∈ids [blk q [ptr pP] 51,Qu pP h.pH,grp (h.L g d)],i∉ [p3]:=fun i hi hm=>by
  have hnd:=H2.nd
  rw[EX]at hnd
  exact(C9.1 hnd).2.2 i (by rw[Bz.1 hm];simp[ids,blk]) i hi rfl
 refine aus (B:=[p3]) (fun pre=> [blk p3 [.int .i64 ((pre.length:Nat):Int)] 3]) [blk q [ptr pP] 51,Qu pP h.pH,grp (h.L g d)] H2 (fun _=>rfl) O func153 Aw Aw
  (ath hO l hl hV [p3] _ HK hdis) (fun _=>rfl) Aw (fun x=> [(6,.int .u64 x)]) (fun x=> []) (fun _=>by simp) ?assign ?body ?done
 case assign=>
  intro x W
  refine Bj ?_
  exact ad9 rfl
 case body=>
  rintro pre x W hlen H
  rw[DL]at hlen
  clear H2
  refine E8 (DF (fV ?_))
  refine dw ?_
  refine dI ?_
  clear H;refine axS fun _ H=>?_
  refine AZ (CS (ama ?_))
  refine⟨_,rfl,?_⟩
  rw[Cj];exact H
 case done=>
  rintro D W H hK
  clear H2
  replace H:Heap w [] _ W:=Heap.calm (L:=[dfd D,blk p3 [.int .i64 (((l.map (·.2)).length:Nat):Int)] 3]) (M:=[blk q [ptr pP] 51,Qu pP h.pH,grp (h.L g d)]) H hO2 hK (fun i hi=>by
   have:i∈ids [blk q [ptr pP] 51,Qu pP h.pH,grp (h.L g d)]:=by rw[Ep];exact Du _ hi
   exact .inr ⟨this,this⟩)
  rw[DL]at H
  refine CS (AX (AP (BG H 1 O O O FM (xA ?_))))
  refine alY (alK H 0 O ?_)
  intro _ H';simp only[FH,FD]at H';clear H;have H:=H';clear H'
  refine fm1 O (Jt (v:= .int _ _) O) ?_
  exact⟨rfl,H.only⟩
end
end
end
section
section
open Go.RowKit
theorem asN(p:Nat)(w:World):Calls prog 90 [ptr p].toArray w fun e w'=>∃q,e= .returned (.func (.func 154) #[] [pt q].toArray)∧Heap w [] [blk q [ptr p] 52] w':=by
 have H:=Heap.nil w
 refine BO 4 func90 O (AP (WU H O O O ?_))
 intro p1 _ H';clear H;have H:=H';clear H'
 refine qH ?_
 exact⟨_,rfl,H⟩
namespace Tr
def ino:Tr→List (Int×Int)
 |nil=> []
 |node _ k v l r=>l.ino++(k,v)::r.ino
def mid:Tr→List (Int×Int)
 |nil=> []
 |node _ k v _ r=>(k,v)::r.ino
def rest(ss:List Tr):List (Int×Int):=ss.foldl (fun acc s=>s.mid++acc) []
theorem VE(ss:List Tr)(s:Tr):rest (ss++ [s])=s.mid++rest ss:=by unfold rest;rw[Q9];rfl
theorem aan:∀t:Tr,t.ino.length=t.pl.size
 |nil=>rfl
 |node a k v l r=>by
  have h1:=aan l
  have h2:=aan r
  show(l.ino++(k,v)::r.ino).length=l.pl.size+1+r.pl.size
  rw[Cj,Es];omega
theorem alF(ss:List Tr)(h:∀s∈ss,s.isN=true):ss.length≤(rest ss).length:=by
 suffices hh:∀acc:List (Int×Int),ss.length+acc.length≤(ss.foldl (fun acc s=>s.mid++acc) acc).length by
  have:=hh []
  simp only[Iu]at this
  exact this
 induction ss with
 |nil=>intro acc;simp
 |cons s ss ih=>
  intro acc
  have h1:=ih (fun x hx=>h x (DZ _ hx)) (s.mid++acc)
  have h2:=h s J
  have h3:1≤s.mid.length:=by
   cases s with
   |nil=>cases h2
   |node a k v l r=>show 1≤((k,v)::r.ino).length;simp
  rw[Cj]at h1
  rw[List.foldl_cons,Es];omega
def lA:Tr→Int
 |nil=>0
 |node _ _ _ l _=>l.IU
def rA:Tr→Int
 |nil=>0
 |node _ _ _ _ r=>r.IU
def kA:Tr→Int
 |nil=>0
 |node _ k _ _ _=>k
def vA:Tr→Int
 |nil=>0
 |node _ _ v _ _=>v
def rd4(t:Tr):List Value:=[.int .i64 t.lA,.int .i64 t.rA,.int .u64 t.kA,.int .u64 t.vA]
theorem alh:∀t:Tr,t.rd=t.rd4
 |nil=>rfl
 |node _ _ _ _ _=>rfl
end Tr
def itT(q pT pH:Nat)(E:FU):List FU:=[blk q [ptr pT] 52,MV pT pH 5,E]
def opE(A:Option Addr)(c:Nat)(ss:List Tr):FU:=Ec 1 (.slice A ss.length c) ss.length ((ss.map Tr.IU).map (Value.int .i64)) 3
section
variable{g:Geo}{d:Nv.D}{m:Nat}{id:Int}{h:Fq}{pT:Nat}{w:World}{G:Int→Prop}{A:Nat}
theorem atv{q:Nat}(hO:F6 d m 40 id h)(T:Tr)(hT:T.At h.s.U d.cache)(hV:h.V.getD 5 0=T.IU)(hsz:T.pl.size≤1000)(B:List Nat)(W:World)(hE:Dj (itT q pT h.pH (grp (h.L g d))) W)(hB:∀i∈ids (itT q pT h.pH (grp (h.L g d))),i∉B)(hBl:∀i∈B,i<W.heap.size):
 aru prog 154 [pt q].toArray (fun x:Int×Int=> #[.int .u64 x.1,.int .u64 x.2]) T.ino B W:=by
 intro y Az W0 hB1 hy1 hy2 hJ hY hJ0
 refine(callsIn_wide (n:=4)).2 ?_
 have hws:=hB1.size
 have hno:∀i∈ids (itT q pT h.pH (grp (h.L g d))),i∉y::B:=fun i hi hm=>by
  rcases Dh.1 hm with e|e
  ·have:=(Heap.start hE).aaQ i hi;omega
  ·exact hB i hi e
 have hlt0:∀i∈ids (itT q pT h.pH (grp (h.L g d))),i<W0.heap.size:=fun i hi=>by have:=(Heap.start hE).aaQ i hi;omega
 have axe:∀i,W0.heap.size≤i→i∉y::B:=fun i hi hm=>by
  rcases Dh.1 hm with e|e
  ·omega
  ·have:=hBl i e;omega
 have hE1:Dj (itT q pT h.pH (grp (h.L g d))) W0:=((Heap.start hE).same (Only.of_below hB1 [])).ents
 clear hE hB hB1 hBl
 rw[abx]
 have hRd:=fun(t:Tr) (ht:t.At h.s.U d.cache) {W:World} hE=>Vj (g:=g) (d:=d) (h:=h) (pT:=pT) (nm:=5) (w:=W) hE hO t ht
 have hRo:=fun{W:World} hE=>aeO (g:=g) (d:=d) (h:=h) (pT:=pT) (w:=W) hE hO hV
 have HR:=Heap.start hE1
 have H:=(Heap.nil W0).Kr 1 3
 refine BO 59 func154 O (AP (EM O (AO (AP (BG (HR.same H.only) 0 O O O aoI (BL H O (hRo ((HR.same H.only).BQ [1,2] O O).ents) (aoF O) fun W1 H=>AY O (AO (E8 ?_))))))))
 have hJ2:=hJ _ _ _ [] hJ0 H.only J
 have hE2:=(HR.same H.only).ents
 have al3:∀i∈ids [opE none 0 []],W0.heap.size≤i:=fun i hi=>(H.own i hi).resolve_left J
 have auv:Dj [opE none 0 []] _:=H.ents
 have hsz2:=H.only.size
 refine EO (fun z f W=>∃(pre:List (Int×Int)) (t:Tr) (ss:List Tr) (A:Option Addr) (c:Nat),pre++(t.ino++Tr.rest ss)=T.ino∧z=(t.ino++Tr.rest ss).length∧t.At h.s.U d.cache∧(∀s∈ss,s.At h.s.U d.cache∧s.isN=true)∧f 0= .func (.yield y) #[] #[]∧f 1=pt q∧f 3= .slice A ss.length c∧f 4= .int .i64 t.IU∧Az pre W∧W0.heap.size≤W.heap.size∧Dj (itT q pT h.pH (grp (h.L g d))) W∧Dj [opE A c ss] W∧∀i∈ids [opE A c ss],W0.heap.size≤i) _ ⟨[],T,[],none,0,by simp[Tr.rest],rfl,hT,J,rfl,rfl,rfl,rfl,hJ2,hsz2,hE2,auv,al3⟩ ?_
 clear hJ2 hE2 al3 auv hsz2 H HR hE1 hJ0
 rintro z f W ⟨pre,t,ss,A,c,hpre,rfl,ht,hss,f0,f1,f3,f4,hJ0,hsW,hEi,hEo,hge⟩
 obtain⟨f,rfl⟩:=Jj f0 f1 f3 f4
 clear f0 f1 f3 f4
 have hit:∀{V:World},Only (ids [opE A c ss]) W V→Dj (itT q pT h.pH (grp (h.L g d))) V:=fun hO2=>hEi.wide hO2 (fun i hi hm=>by have:=hlt0 i hi;have:=hge i hm;omega)
 have H:=Heap.start hEo
 have ZH:=fun{W:World} hE=>hRd t ht (W:=W) hE
 rw[Tr.alh]at ZH
 have hTl:=Tr.aan T
 obtain⟨N,hN⟩:∃N,(t.ino++Tr.rest ss).length=N:=⟨_,rfl⟩
 rw[hN]
 generalize ids [opE A c ss]=I at*
 clear hEi hEo
 refine E8 (A8 (AP (BG (Heap.start (hit H.only)) 0 O O O aoI (AQ O (BL H O (ZH ((Heap.start (hit H.only)).BQ [1,2] O O).ents) (RY O) fun W1 H=>cO ?_)))))
 refine Ei H O JG fun p5 _ H=>gu ?_
 clear H;refine axS fun _ H=>?_
 refine BH O (AO (E8 (EO (fun z f V=>∃(t:Tr) (ss:List Tr) (A:Option Addr) (c p5:Nat),pre++(t.ino++Tr.rest ss)=T.ino∧z=t.pl.size∧(t.ino++Tr.rest ss).length=N∧t.At h.s.U d.cache∧(∀s∈ss,s.At h.s.U d.cache∧s.isN=true)∧f 0= .func (.yield y) #[] #[]∧f 1=pt q∧f 3= .slice A ss.length c∧f 4= .int .i64 t.IU∧f 5=ptr p5∧f 6= .bool t.isN∧Heap W I [blk p5 t.rd4 161,opE A c ss] V) _ ⟨t,ss,A,c,_,hpre,rfl,hN,ht,hss,rfl,rfl,rfl,rfl,rfl,rfl,H⟩ ?_)))
 clear H ZH hss ht hpre hN
 rintro z f V ⟨t,ss,A,c,p5,hpre,rfl,hN,ht,hss,f0,f1,f3,f4,f5,f6,H⟩
 obtain⟨f,rfl⟩:=XC f0 f1 f3 f4 f5 f6
 clear f0 f1 f3 f4 f5 f6
 have hsl:=Tr.alF ss fun s hs=>(hss s hs).2
 have hpl:=congrArg List.length hpre
 rw[Cj,Cj]at hpl
 cases t with
 |nil=>
  rcases JW ss with rfl|⟨ss,s,rfl⟩
  ·have e0:pre=T.ino:=by rw[←hpre];simp[Tr.ino,Tr.rest]
   subst e0
   unfold opE at H
   refine A8 (AP (BX O (AO (eG ?_))))
   refine sS ?_
   refine wO ?_
   refine BM (Dx (F8 (Dx (F8 (apk O ?_)))))
   exact⟨⟨_,rfl⟩,hJ _ _ _ I hJ0 H.only hge⟩
  ·rw[JU]at*
   obtain⟨hsA,hsN⟩:=hss s J
   cases s with
   |nil=>cases hsN
   |node a k v l r=>
    have hRs:=fun{W:World} hE=>hRd (.node a k v l r) hsA (W:=W) hE
    rw[Tr.alh]at hRs
    have hlen:(ss++ [Tr.node a k v l r]).length=ss.length+1:=by simp
    have hx:((ss++ [Tr.node a k v l r]).map Tr.IU)[ss.length]? =some a:=by simp[Tr.IU]
    have ahR:(pre++ [(k,v)])++(r.ino++Tr.rest ss)=T.ino:=by rw[←hpre,Tr.VE];simp[Tr.ino,Tr.mid]
    have hN2:(r.ino++Tr.rest ss).length<N:=by rw[←hN,Tr.VE];simp[Tr.ino,Tr.mid]
    have hyl:pre.length<T.ino.length:=by rw[←ahR];simp
    unfold opE at H
    have hc:=Pq H 1 rfl
    obtain⟨qA,rfl⟩:=H.JO 1 rfl Y
    rw[hlen]at H hc⊢
    refine A8 (AP (BX O (AO (eG ?_))))
    refine sS ?_
    refine kC ?_
    refine A8 ?_
    refine Gl (fun f V2=>∃p7,f 0= .func (.yield y) #[] #[]∧f 1=pt q∧f 3= .slice (some ⟨qA,0,none⟩) (ss.length+1) c∧f 7=ptr p7∧Heap W I [blk p7 (Tr.node a k v l r).rd4 161,blk p5 (Tr.nil).rd4 161,Ec 1 (.slice (some ⟨qA,0,none⟩) (ss.length+1) c) (ss.length+1) (((ss++ [Tr.node a k v l r]).map Tr.IU).map (Value.int .i64)) 3] V2) ?_ ?_
    ·refine JQ (A:=[_,_]) mixed H [0,1] O ?_;replace H:=H.drew
     refine CZ 0 O O O (fun _ hS=>DR (Heap.start (hit hS.only)) 0 O O O aoI) (H.BQ [0,1] O O) (CZ 1 O O O (fun _ hS=>Cc (v:= .slice _ _ _) O) (H.BQ [0,1] O O) (CZ 2 O O O (fun _ hS=>Cc (v:= .slice _ _ _) O) (H.BQ [0,1] O O) (CZ 3 O O O (fun _ hS=>Gw O underlying22) (H.BQ [0,1] O O) (CZ 4 O O O (fun _ hS=>Gu O O (wI Y)) (H.BQ [0,1] O O) (CZ 5 O O O (fun _ hS=>H8 (i:=ss.length) O O Y Y underlying22 Ji) (H.BQ [0,1] O O) (CZ 6 O O O (fun _ hS=>XJ hS 1 O O hx FM) (H.BQ [0,1] O O) ?_))))))
     refine Et 7 11 ?_ ?_
     ·refine CB O (BL H O (hRs ((Heap.start (hit H.only)).BQ [1,2] O O).ents) (RY O) fun W1 H=>AZ (BA (H.BQ [0,1] O O) (CZ 8 O O O (fun _ hS=>Cc (v:= .tuple _) O) (H.BQ [0,1] O O) (CZ 9 O O O (fun _ hS=>CQ (v:= .agg _) O O) (H.BQ [0,1] O O) (CZ 10 O O O (fun _ hS=>CQ (v:= .bool _) O O) (H.BQ [0,1] O O) (BD 11 O (Ei H O JG fun p7 _ H=>AZ (BA (H.BQ [1,2] O O) (BD 12 O (gu ?_))))))))))
      clear H;refine axS fun _ H=>?_
      refine wG ?_
      exact⟨_,rfl,rfl,rfl,rfl,H⟩
     ·refine CB O (Ei H O JG fun p7 _ H=>AZ (BA (H.BQ [1,2] O O) (BD 7 O (BL H O (hRs ((Heap.start (hit H.only)).BQ [1,2] O O).ents) (RY O) fun W1 H=>AZ (BA (H.BQ [1,2] O O) (CZ 8 O O O (fun _ hS=>Cc (v:= .tuple _) O) (H.BQ [1,2] O O) (CZ 9 O O O (fun _ hS=>CQ (v:= .agg _) O O) (H.BQ [1,2] O O) (CZ 10 O O O (fun _ hS=>CQ (v:= .bool _) O O) (H.BQ [1,2] O O) (BD 12 O (gu ?_))))))))))
      clear H;refine axS fun _ H=>?_
      refine wG ?_
      exact⟨_,rfl,rfl,rfl,rfl,H⟩
    clear H
    rintro f V ⟨p7,f0,f1,f3,f7,H⟩
    obtain⟨f,rfl⟩:=Jj f0 f1 f3 f7
    clear f0 f1 f3 f7
    refine AX (vW ?_)
    refine AV (P6 (j:=ss.length) O O Y Y underlying22 Ji) (EM O (AO (A8 (A8 (ala Aw (PG O O (Cc (v:= .func _ _ _) O) (PG O O (Cm O Hy) (PG O O (DR H 0 O O O Gh) (PG O O (Cm O Ue) (PG O O (DR H 0 O O O Gh) (aeA O O O (hY _ (k,v) _ (hJ _ _ _ I hJ0 H.only hge) hyl) ?_)))))))))))
    have hown:=H.own
    have hV0:=H.only.size
    rintro e W2 ⟨rfl,hJ1,hk1⟩
    refine⟨_,rfl,?_⟩
    have al3:∀i∈ids [blk p7 (Tr.node a k v l r).rd4 161,blk p5 (Tr.nil).rd4 161,Ec 1 (.slice (some ⟨qA,0,none⟩) (ss.length+1) c) (ss.length+1) (((ss++ [Tr.node a k v l r]).map Tr.IU).map (Value.int .i64)) 3],W0.heap.size≤i:=fun i hi=>by
     rcases hown i hi with e|e
     ·exact hge i e
     ·omega
    have axz:=(hit H.only).wide hk1 hno
    have avX:=H.ents.wide hk1 fun i hi=>axe i (al3 i hi)
    have axO:=hk1.size
    clear H hJ0
    have H:=Heap.start avX
    refine PG O O (Ea O) (aiT (AX (DC O (Bj (AX (DF (BI O LU (fV ?_))))))))
    refine AY O (AZ (CS (Dk ?_)))
    have h1:=(H.BQ [2] rfl rfl).Ro 0 rfl (m:=ss.length) Y
    simp only[Bf,Bd,GY]at h1
    have e1:(((ss++ [Tr.node a k v l r]).map Tr.IU).map (Value.int .i64)).take ss.length=(ss.map Tr.IU).map (Value.int .i64):=by simp
    rw[e1]at h1
    refine⟨_,_,hN2,rfl,pre++ [(k,v)],r,ss,some ⟨qA,0,none⟩,c,ahR,rfl,hsA.2.2.2,fun s hs=>hss s (CO _ hs),rfl,rfl,rfl,rfl,hJ1,Y,axz,h1.ents,fun i hi=>?_⟩
    rcases h1.own i hi with e|e
    ·exact al3 i e
    ·omega
 |node a k v l r=>
  obtain⟨hn,hkv,hl,hr⟩:=ht
  have hRl:=fun{W:World} hE=>hRd l hl (W:=W) hE
  rw[Tr.alh]at hRl
  have ahR:pre++(l.ino++Tr.rest (ss++ [Tr.node a k v l r]))=T.ino:=by rw[←hpre,Tr.VE];simp[Tr.ino,Tr.mid]
  have hN2:(l.ino++Tr.rest (ss++ [Tr.node a k v l r])).length=N:=by rw[←hN,Tr.VE];simp[Tr.ino,Tr.mid]
  have hlen:(ss++ [Tr.node a k v l r]).length=ss.length+1:=by simp
  have hmp:((ss++ [Tr.node a k v l r]).map Tr.IU).map (Value.int .i64)=(ss.map Tr.IU++ [a]).map (Value.int .i64):=by simp[Tr.IU]
  unfold opE at H
  refine A8 (AP (BX O (AO (ng ?_))))
  refine AP (Dz O (qX ?_))
  clear H;intro _ An cn _ H;simp only[Bv,Nat.reduceAdd]at H
  refine EM O (AO (DF (rQ ?_)))
  refine AY O (AZ (CS (AX (A8 (AP (Dw H 0 O O O Ws Jk (AO (DF (Ei H O JG fun p5 _ H=>gu ?_)))))))))
  clear H;refine axS fun _ H=>?_
  refine AO (DF (BG (Heap.start (hit H.only)) 0 O O O aoI (AQ O (BL H O (hRl ((Heap.start (hit H.only)).BQ [1,2] O O).ents) (RY O) fun W1 H=>cO ?_))))
  refine gu ?_
  clear H;refine axS fun _ H=>?_
  refine BH O (AZ (Dk ?_))
  have awe:((ss++ [Tr.node a k v l r]).map Tr.IU).map (Value.int .i64)=(ss.map Tr.IU++ [(Tr.node a k v l r).IU]).map (Value.int .i64):=hmp
  exact⟨_,_,FV (Nat.lt_succ_self _) (Nat.le_add_right _ _),rfl,l,ss++ [Tr.node a k v l r],An,cn,_,ahR,rfl,hN2,hl,fun s hs=>by
   rcases Ci.1 hs with e|e
   ·exact hss s e
   ·rw[Bz.1 e];exact⟨⟨hn,hkv,hl,hr⟩,rfl⟩,rfl,rfl,by rw[hlen];rfl,rfl,rfl,rfl,by unfold opE;rw[hlen,awe];exact H.BQ [0,2] rfl rfl⟩
theorem as1(hE:Dj [MV pT h.pH 5,grp (h.L g d)] w)(hO:F6 d m 40 id h)(T:Tr)(hT:T.At h.s.U d.cache)(hV:h.V.getD 5 0=T.IU)(hsz:T.pl.size≤1000):Calls prog 26 [ptr pT].toArray w fun e w'=>e= .returned (.int .i64 T.pl.size)∧Only [] w w':=by
 have H:=Heap.nil w
 have hTl:=Tr.aan T
 refine amE (N:=11) func26 O O O (oM ?_)
 refine AP (akk H O JH O ?_)
 intro p3 _ H';clear H;have H:=H';clear H'
 refine dI ?_
 clear H;refine axS fun _ H=>?_
 refine AO (A8 (AP (Bg O (s_call O (asN pT _) (awU O) ?_))))
 rintro e W1 ⟨q,rfl,H'⟩
 refine⟨_,rfl,?_⟩
 have H:=H.more H';clear H'
 refine AO (E8 ?_)
 have hO2:=H.only
 have H2:=VL hE H
 replace H2:Heap w _ ([blk p3 [.int .i64 ((([]:List (Int×Int)).length:Nat):Int)] 3]++itT q pT h.pH (grp (h.L g d))) _:=H2.order [1,0,2,3] rfl rfl
 have HK:Dj (itT q pT h.pH (grp (h.L g d))) _:=(H2.order [1,2,3,0] rfl rfl:Heap w _ ([_,_,_]++ [_]) _).part
 have hdis:∀i∈ids (itT q pT h.pH (grp (h.L g d))),i∉ [p3]:=fun i hi hm=>by
  have hnd:=H2.nd
  rw[EX]at hnd
  exact(C9.1 hnd).2.2 i (by rw[Bz.1 hm];simp[ids,blk]) i hi rfl
 have hp3:∀i∈[p3],i<_:=fun i hi=>H2.aaQ i (by rw[EX,Bz.1 hi];simp[ids,blk])
 refine aus (B:=[p3]) (fun pre=> [blk p3 [.int .i64 ((pre.length:Nat):Int)] 3]) (itT q pT h.pH (grp (h.L g d))) H2 (fun _=>rfl) O func154 Aw Aw
  (atv hO T hT hV hsz [p3] _ HK hdis hp3) (fun _=>rfl) Aw (fun x=> [(6,.int .u64 x.1),(7,.int .u64 x.2)]) (fun x=> []) (fun _=>by simp) ?assign ?body ?done
 case assign=>
  intro x W
  refine Bj ?_
  exact ad9 rfl
 case body=>
  rintro pre x W hlen H
  rw[hTl]at hlen
  clear H2
  refine E8 (DF (fV ?_))
  refine dw ?_
  refine dI ?_
  clear H;refine axS fun _ H=>?_
  refine AZ (CS (ama ?_))
  refine⟨_,rfl,?_⟩
  rw[Cj];exact H
 case done=>
  rintro D W H hK
  clear H2
  replace H:Heap w [] _ W:=Heap.calm (L:=[dfd D,blk p3 [.int .i64 ((T.ino.length:Nat):Int)] 3]) (M:=itT q pT h.pH (grp (h.L g d))) H hO2 hK (fun i hi=>by
   have:i∈ids (itT q pT h.pH (grp (h.L g d))):=by unfold itT;rw[Ep];exact Du _ hi
   exact .inr ⟨this,this⟩)
  rw[hTl]at H
  refine CS (AX (AP (BG H 1 O O O FM (xA ?_))))
  refine alY (alK H 0 O ?_)
  intro _ H';simp only[FH,FD]at H';clear H;have H:=H';clear H'
  refine fm1 O (Jt (v:= .int _ _) O) ?_
  exact⟨rfl,H.only⟩
end
end
end
section
section
open Go.RowKit
section
variable{P:Program}{n:Sz}{f:Nat→Value}{W:World}
theorem amh{dst:Option Tmp}{t t2 ty:TypeId}{pos:String}{af:Array Edge}{g:Option (Nat×Bool)}{x y:Operand}{a b:Bool}(hx:ev n f x= .bool a)(hy:ev n f y= .bool b)(h:a=b)(ht:P.underlying t=some .bool):(execOp (ev n f) ⟨dst,.binOp .neq t x y t2,ty,pos,af,g⟩).run P W= .ok (.value (.bool false)) W:=by
 subst h
 have h:∀d:Nat,(Op.equalIn (d+1) t (.bool a) (.bool a)).run P W= .ok true W:=fun d=>by
  simp[Op.equalIn,run_underlying ht]
 have h2:(binOp .neq t (.bool a) (.bool a)).run P W= .ok (.bool false) W:=by
  simp only[binOp]
  simp[Op.equal,Op.maxDepth,h 9999]
 have h3:(eqGuard .neq t x y (.bool a) (.bool a)).run P W= .ok () W:=by simp[eqGuard]
 simp only[execOp,hx,hy,Sem.run_bind,h3,h2,Result.andThen_ok];rfl
end
theorem aqU{f:Nat→Value}{k1 k2 k3 k4 k5 k6 k7:Nat}{v1 v2 v3 v4 v5 v6 v7:Value}(h1:f k1=v1)(h2:f k2=v2)(h3:f k3=v3)(h4:f k4=v4)(h5:f k5=v5)(h6:f k6=v6)(h7:f k7=v7):∃g,f=upd (upd (upd (upd (upd (upd (upd g k1 v1) k2 v2) k3 v3) k4 v4) k5 v5) k6 v6) k7 v7:=⟨f,by rw[upd_same h1,upd_same h2,upd_same h3,upd_same h4,upd_same h5,upd_same h6,upd_same h7]⟩
theorem adl(d:Nv.D)(ls:List Int):∀k,Nv.Jp d ls [] k=d.last
 |0=>rfl
 |k+1=>by
  unfold Nv.Jp
  rw[if_neg J]
  exact adl d ls k
def boL(g:Geo)(d:Nv.D)(h:Fq)(pP pT bm:Nat)(WA:Option Addr)(wc:Nat)(ws:List Int)(mv:List (Int×Int)):List FU:=
 [Ec 1 (.slice WA ws.length wc) ws.length (ws.map (Value.int .u64)) 26,mp kV (Value.int .u64) bm mv,MV pT h.pH 5,Qu pP h.pH,grp (h.L g d)]
theorem adI(x:Option Addr×Nat×Nat×List Bop)(w:World)(hx:SK w x.1 x.2.2.2∧x.2.2.2.length=x.2.1∧x.2.1≤9223372036854775807∧x.2.1≤x.2.2.1):
 Calls prog 4 [.slice x.1 x.2.1 x.2.2.1].toArray w fun e w'=>e= .returned (.bool true)∧Below w.heap.size w w':=by
 obtain⟨SA,ln,sc,ops⟩:=x
 obtain⟨hs,hl,hn,hc⟩:=hx
 simp only at hs hl hn hc⊢
 have H:=Heap.nil w
 have hNw:=fun(W:World)=>apH aeE ahT 40 1 ⟨Y,Y⟩ ⟨Y,Y⟩ W
 refine BO 231 func4 O (uV ?_)
 refine A8 (AP (BL H O (aoU _) (ca5 O) fun W1 H=>eU ?_))
 refine AP (AV (FI (aaz _ _ _) O) (s_call O (hNw _) (ca7 O) ?_))
 rintro e W1 ⟨g,d,h,hg,hF,hM,rfl,H'⟩
 refine⟨_,rfl,?_⟩
 have H:=H.more (A:=[grp _]) (Io H');clear H';simp only[Bv]at H
 refine fJ ?_
 refine AO (iQ ?_)
 refine AV (Dc O O Y) (BX O (Bo 35 O (Ls O) (Bo 35 O (aa8 O O underlying29) (gQ ?_))))
 refine AP (Bg O (s_call O (acD _ _) (as6 O) ?_))
 rintro e W1 ⟨pP,pT,rfl,H'⟩
 refine⟨_,rfl,?_⟩
 have H:=H.more H';clear H';simp only[Bv]at H
 refine Dt O (vO ?_)
 refine vO ?_
 refine jR ?_
 refine Fb O (Fb O (BH O (AO (ru ?_))))
 refine EM O (AO (AP (aj2 kV (Value.int .u64) H O ?_)))
 intro bm _ H';clear H;have H:=H';clear H'
 refine AV (DK (v:= .map _) O) (AO (vT ?_))
 replace H:Heap w [] (boL g d h pP pT bm none 0 [] []) _:=(H.Kr 1 26)
 have S0:=BoS.new hF hM
 refine EO (fun z f W=>∃(i:Nat) (g:Geo) (d:Nv.D) (h:Fq) (l:List (Int×Int)) (T:Tr) (A:Nat) (ws:List Int) (mv:List (Int×Int)) (pP pT bm:Nat) (WA:Option Addr) (wc:Nat),i≤ln∧i≤40∧z=40-i∧BoS i d h l T A ws mv∧Q5 g (64*40)∧f 0= .slice SA ln sc∧f 3=ptr h.pH∧f 5=ptr pP∧f 6=ptr pT∧f 8= .slice WA ws.length wc∧f 9= .map (some bm)∧f 10= .int .i64 i∧Heap w [] (boL g d h pP pT bm WA wc ws mv) W) 40 ⟨0,g,d,h,[],.nil,0,[],[],pP,pT,bm,none,0,Y,Y,rfl,S0,hg,rfl,rfl,rfl,rfl,rfl,rfl,rfl,H⟩ ?_
 clear H hF S0 hNw hM hg
 rintro z f W ⟨i,g,d,h,l,T,A,ws,mv,pP,pT,bm,WA,wc,hil,axK,rfl,S,hg,f0,f3,f5,f6,f8,f9,f10,H⟩
 obtain⟨f,rfl⟩:=aqU f0 f3 f5 f6 f8 f9 f10
 clear f0 f3 f5 f6 f8 f9 f10
 have hwl:ws.length=l.length:=by rw[S.ws];simp
 have hll:=S.ll
 have hsz:=S.sz
 have hml:=S.ml
 have hAb:=S.hA
 have hEb:=S.E
 by_cases hlt:i<ln
 ·by_cases hlt2:i<40
  ·obtain⟨u,hu⟩:∃u,ops[i]? =some u:=⟨_,Ba Y⟩
   obtain⟨bo,oo,hB,hrd⟩:=hs.1 Y
   have hre:Reads (fun v:Value=>v) w bo (oo+i*3) [.int .i64 u.f0,.int .u64 u.f1,.int .u64 u.f2]:=hrd i u hu
   have hu2:=hs.2 u (BP hu)
   have hk1:Ui u.f1:=by have:=hu2.w1;simp[Lit.wf,IntKind.min,IntKind.max,IntKind.signed,IntKind.bits]at this;exact⟨Y,Y⟩
   have hk2:Ui u.f2:=by have:=hu2.w2;simp[Lit.wf,IntKind.min,IntKind.max,IntKind.signed,IntKind.bits]at this;exact⟨Y,Y⟩
   have gk:kV.Gd u.f1:=hk1
   subst hB
   have hnd:(mv.map Prod.fst).Nodup:=by
    unfold boL at H
    obtain⟨es,clock,_,hok⟩:=H.U1 1 rfl
    exact hok.nd
   have hden:∃(there:Bool),there=(FZ mv u.f1).isSome:=⟨_,rfl⟩
   unfold boL at H
   refine iQ ?_
   refine Dz O (Eb O underlying50 (AV (DI O O Y) (BX O (Bo 52 O (Gm O) (Bo 52 O (DI O O Y) (EZ O O (AO (ng ?_))))))))
   refine AP (Dz O (AQ O (AV (OO (i:=i) O O Y Y underlying50 aqy) (AV (ZA (enc:=fun v:Value=>v) (zs:=[.int .i64 u.f0,.int .u64 u.f1,.int .u64 u.f2]) (hre.later H.only J) O O axE aqy) (Ei H O ata fun p11 _ H=>En H 0 O O O O O O O aqy ?_)))))
   clear H;refine axS fun _ H=>?_
   refine AO (A8 ?_)
   refine Gl (fun f W=>f 0= .slice (some ⟨bo,oo,none⟩) ln sc∧f 3=ptr h.pH∧f 5=ptr pP∧f 6=ptr pT∧f 8= .slice WA ws.length wc∧f 9= .map (some bm)∧f 10= .int .i64 i∧f 11=ptr p11∧f 13= .bool (FZ mv u.f1).isSome∧Heap w [] [blk p11 [.int .i64 u.f0,.int .u64 u.f1,.int .u64 u.f2] 58,Ec 1 (.slice WA ws.length wc) ws.length (ws.map (Value.int .u64)) 26,mp kV (Value.int .u64) bm mv,MV pT h.pH 5,Qu pP h.pH,grp (h.L g d)] W) ?_ ?_
   ·cases hm:FZ mv u.f1 with
    |none=>
     refine DF (vN ?_)
     refine AZ (Dp ?_)
     exact⟨rfl,rfl,rfl,rfl,rfl,rfl,rfl,rfl,rfl,H⟩
    |some v=>
     refine DF (uU ?_)
     refine AZ (Dp ?_)
     exact⟨rfl,rfl,rfl,rfl,rfl,rfl,rfl,rfl,rfl,H⟩
   clear H
   rintro f W ⟨f0,f3,f5,f6,f8,f9,f10,f11,f13,H⟩
   obtain⟨f,rfl⟩:=apB f0 f3 f5 f6 f8 f9 f10 f11 f13
   clear f0 f3 f5 f6 f8 f9 f10 f11 f13
   refine AX (A8 (AP (BI O ase (fV ?_))))
   refine AO ?_
   refine Gl (fun f W=>∃(g:Geo) (d:Nv.D) (h:Fq) (l:List (Int×Int)) (T:Tr) (A:Nat) (ws:List Int) (mv:List (Int×Int)) (pP pT:Nat) (WA:Option Addr) (wc:Nat),BoS (i+1) d h l T A ws mv∧Q5 g (64*40)∧f 0= .slice (some ⟨bo,oo,none⟩) ln sc∧f 3=ptr h.pH∧f 5=ptr pP∧f 6=ptr pT∧f 7= .bool true∧f 8= .slice WA ws.length wc∧f 9= .map (some bm)∧f 10= .int .i64 i∧f 11=ptr p11∧Heap w [] [blk p11 [.int .i64 u.f0,.int .u64 u.f1,.int .u64 u.f2] 58,Ec 1 (.slice WA ws.length wc) ws.length (ws.map (Value.int .u64)) 26,mp kV (Value.int .u64) bm mv,MV pT h.pH 5,Qu pP h.pH,grp (h.L g d)] W) ?_ ?_
   ·by_cases k0:u.f0=0
    ·have hPu:=fun{W:World} hE=>aqQ (g:=g) (d:=d) (h:=h) (pP:=pP) (w:=W) hE S.B.R hg Y Y S.B.rg S.B.V2 S.B.pl.IU hk1
     refine E8 (AP (pJ ?_))
     refine Bg O (nG ?_)
     refine s_call O (hPu (H.BQ [4,5] O O).ents) (axp O) ?_
     rintro e W1 ⟨d1,h1,a1,R1,O1,hf1,N1,hrg1,rfl,H'⟩
     refine⟨_,rfl,?_⟩
     have H:=(H.order [4,5,0,1,2,3] rfl rfl:Heap w [] ([_,_]++ [_,_,_,_]) _).step H' (fun i hi=>hi);clear H';simp only[Bv]at H
     refine iO ?_
     refine AO ?_
     have B1:=S.B.push R1 O1 N1 hk1 hrg1
     have S1:=S.push B1 O1.E
     have Wn:=O1.pH
     rw[←Wn]at H
     have hfin:∀{A2:Option Addr} {c2:Nat} {W2:World},Heap w [] [blk p11 [.int .i64 u.f0,.int .u64 u.f1,.int .u64 u.f2] 58,Ec 1 (.slice A2 (0+ws.length+1) c2) (0+ws.length+1) (([]++ws++ [u.f1]).map (Value.int .u64)) 26,mp kV (Value.int .u64) bm mv,MV pT h1.pH 5,Qu pP h1.pH,grp (h1.L g d1)] W2→Heap w [] [blk p11 [.int .i64 u.f0,.int .u64 u.f1,.int .u64 u.f2] 58,Ec 1 (.slice A2 (ws++ [u.f1]).length c2) (ws++ [u.f1]).length ((ws++ [u.f1]).map (Value.int .u64)) 26,mp kV (Value.int .u64) bm mv,MV pT h1.pH 5,Qu pP h1.pH,grp (h1.L g d1)] W2:=fun{A2 c2 W2} H=>by
      rw[EH,Ey]at H
      rw[Cj];exact H
     have hl1:(ws++ [u.f1]).length=0+ws.length+1:=by simp
     refine G5 mixed ?_;replace H:=H.drew
     refine CZ 1 O O O (fun _ hS=>Cc (v:= .slice _ _ _) O) trivial (CZ 3 O O O (fun _ hS=>Cm O NY) trivial ?_)
     refine Et 0 4 ?_ ?_
     ·refine CB O (acy 1 Y H O underlying55 GH ?_)
      intro _ _ H';clear H;have H:=H';clear H'
      refine ak ?_
      refine Et 2 4 ?_ ?_
      ·refine jr ?_
       clear H;intro A1 c1 _ H;simp only[Bv,Nat.reduceAdd]at H
       refine jd ?_
       refine BG H 3 O O O Gh (oW ?_)
       refine fQ ?_
       intro q5 _ H';clear H;have H:=H';clear H'
       refine ak ?_
       refine fH ?_
       clear H;intro A2 c2 _ H;simp only[Bv,Nat.reduceAdd]at H
       refine ak ?_
       refine gV ?_
       exact⟨g,d1,h1,_,T,_,_,mv,pP,pT,A2,c2,S1,hg,rfl,by rw[Wn];rfl,rfl,rfl,rfl,by rw[hl1];rfl,rfl,rfl,rfl,hfin Aj⟩
      ·refine CB O (BG H 3 O O O Gh (ak ?_))
       refine Et 2 5 ?_ ?_
       ·refine jr ?_
        clear H;intro A1 c1 _ H;simp only[Bv,Nat.reduceAdd]at H
        refine oW ?_
        refine fQ ?_
        intro q5 _ H';clear H;have H:=H';clear H'
        refine ak ?_
        refine fH ?_
        clear H;intro A2 c2 _ H;simp only[Bv,Nat.reduceAdd]at H
        refine ak ?_
        refine gV ?_
        exact⟨g,d1,h1,_,T,_,_,mv,pP,pT,A2,c2,S1,hg,rfl,by rw[Wn];rfl,rfl,rfl,rfl,by rw[hl1];rfl,rfl,rfl,rfl,hfin Aj⟩
       ·refine CB O (fQ ?_)
        intro q5 _ H';clear H;have H:=H';clear H'
        refine rG ?_
        clear H;intro A1 c1 _ H;simp only[Bv,Nat.reduceAdd]at H
        refine ak ?_
        refine fH ?_
        clear H;intro A2 c2 _ H;simp only[Bv,Nat.reduceAdd]at H
        refine ak ?_
        refine gV ?_
        exact⟨g,d1,h1,_,T,_,_,mv,pP,pT,A2,c2,S1,hg,rfl,by rw[Wn];rfl,rfl,rfl,rfl,by rw[hl1];rfl,rfl,rfl,rfl,hfin Aj⟩
     ·refine CB O (BG H 2 O O O Gh (ak ?_))
      refine Et 0 5 ?_ ?_
      ·refine CB O (acy 1 Y H O underlying55 GH ?_)
       intro _ _ H';clear H;have H:=H';clear H'
       refine ak ?_
       refine Et 2 5 ?_ ?_
       ·refine jr ?_
        clear H;intro A1 c1 _ H;simp only[Bv,Nat.reduceAdd]at H
        refine oW ?_
        refine fQ ?_
        intro q5 _ H';clear H;have H:=H';clear H'
        refine ak ?_
        refine fH ?_
        clear H;intro A2 c2 _ H;simp only[Bv,Nat.reduceAdd]at H
        refine ak ?_
        refine gV ?_
        exact⟨g,d1,h1,_,T,_,_,mv,pP,pT,A2,c2,S1,hg,rfl,by rw[Wn];rfl,rfl,rfl,rfl,by rw[hl1];rfl,rfl,rfl,rfl,hfin Aj⟩
       ·refine CB O (fQ ?_)
        intro q5 _ H';clear H;have H:=H';clear H'
        refine rG ?_
        clear H;intro A1 c1 _ H;simp only[Bv,Nat.reduceAdd]at H
        refine ak ?_
        refine fH ?_
        clear H;intro A2 c2 _ H;simp only[Bv,Nat.reduceAdd]at H
        refine ak ?_
        refine gV ?_
        exact⟨g,d1,h1,_,T,_,_,mv,pP,pT,A2,c2,S1,hg,rfl,by rw[Wn];rfl,rfl,rfl,rfl,by rw[hl1];rfl,rfl,rfl,rfl,hfin Aj⟩
      ·refine CB O (fQ ?_)
       intro q5 _ H';clear H;have H:=H';clear H'
       refine ak ?_
       refine BD 0 O (acy 1 Y H O underlying55 GH ?_)
       intro _ _ H';clear H;have H:=H';clear H'
       refine ak ?_
       refine BD 2 O (NK (enc:=(Value.int .u64)) H 0 (xs:=([]:List Int)) O O O O ((FB H 5 O)) (O) (fun _=>rfl) Y underlying55 GH O ?_)
       clear H;intro A1 c1 _ H;simp only[Bv,Nat.reduceAdd]at H
       refine ak ?_
       refine BD 6 O (NK (enc:=(Value.int .u64)) H 0 O O O O ((FB H 1 O)) (O) (fun _=>rfl) Y underlying55 GH O ?_)
       clear H;intro A2 c2 _ H;simp only[Bv,Nat.reduceAdd]at H
       refine ak ?_
       refine gV ?_
       exact⟨g,d1,h1,_,T,_,_,mv,pP,pT,A2,c2,S1,hg,rfl,by rw[Wn];rfl,rfl,rfl,rfl,by rw[hl1];rfl,rfl,rfl,rfl,hfin Aj⟩
    ·by_cases k1:u.f0=1
     ·cases l with
      |nil=>
       have hPo:=fun{W:World} hE=>asI (g:=g) (d:=d) (h:=h) (pP:=pP) (w:=W) hE S.B.R S.B.rg S.B.V2
       have hw0:ws.length=0:=by rw[hwl];rfl
       have B1:=S.B.drop (r:=Pj 0 0 0 0) rfl
       have S1:=S.next B1 rfl
       rw[hw0]
       refine E8 (AP (iq ?_))
       refine pJ ?_
       refine Bg O (s_call O (hPo (H.BQ [4,5] O O).ents) (avo O) ?_)
       rintro e W1 ⟨rfl,H'⟩
       refine⟨_,rfl,?_⟩
       have H:=(H.order [4,5,0,1,2,3] rfl rfl:Heap w [] ([_,_]++ [_,_,_,_]) _).step H' (fun i hi=>hi);clear H';simp only[Bv]at H
       refine jP ?_
       refine AO (AP (Dz O (Eb O underlying55 (xK ?_))))
       refine AV (D7 O O Y) (BX O (Bo 96 O (Gm O) (Bo 96 O (D7 O O Y) (EZ O O (BX O (Df 100 O O (Df 100 O O (Df 100 O O (Je 103 O (Je 103 O (Df 100 O O (Df 100 O O (Je 107 O ?_)))))))))))))
       refine Je 107 O (Je 107 O (Je 107 O (Je 107 O (Je 107 O (Je 107 O (Df 100 O O (EZ O O (BH O (AO (DF (Dz O (AQ O (mD ?_)))))))))))))
       refine AV (Xr O O O) (AV (P6 (j:=0) O O Ak Y underlying55 MB) (EM O (AZ (CS (Dp ?_)))))
       exact⟨g,d,_,_,T,_,ws,mv,pP,pT,WA,wc,S1,hg,rfl,rfl,rfl,rfl,rfl,by rw[hw0];rfl,rfl,rfl,rfl,H.BQ [2,3,4,5,0,1] rfl rfl⟩
      |cons p l=>
       have hPo:=fun{W:World} hE=>as8 (g:=g) (d:=d) (h:=h) (pP:=pP) (w:=W) hE S.B.R hg Y S.B.rg S.B.V2 S.B.pl.1 S.B.pl.2.2.IU
       have hws:ws=(l.map (·.2)).reverse++ [p.2]:=by rw[S.ws];simp
       obtain⟨ws0,hw0⟩:∃x,(l.map (·.2)).reverse=x:=⟨_,rfl⟩
       rw[hw0]at hws
       have hwn:ws.length=ws0.length+1:=by rw[hws];simp
       have hx:ws[ws0.length]? =some p.2:=by rw[hws];simp
       have htk:(ws.map (Value.int .u64)).take ws0.length=ws0.map (Value.int .u64):=by rw[hws];simp
       have hcap:=Pq H 1 rfl
       obtain⟨qA,rfl⟩:=H.JO 1 rfl Y
       refine E8 (AP (iq ?_))
       refine pJ ?_
       refine Bg O (s_call O (hPo (H.BQ [4,5] O O).ents) (avo O) ?_)
       rintro e W1 ⟨d1,h1,R1,O1,hrg1,rfl,H'⟩
       refine⟨_,rfl,?_⟩
       have H:=(H.order [4,5,0,1,2,3] rfl rfl:Heap w [] ([_,_]++ [_,_,_,_]) _).step H' (fun i hi=>hi);clear H';simp only[Bv]at H
       refine jP ?_
       refine AO (AP (Dz O (Eb O underlying55 (xK ?_))))
       refine AV (D5 O O Y) (BX O (Df 96 O O (Df 96 O O (DW O O (BX O (Bo 100 O (Gm O) (Bo 100 O (Oz O O Y) (Bo 100 O (Yq O) (Bo 103 O (Gm O) (Bo 103 O (D7 O O Y) (Bo 100 O (Iz (v:= .bool _) O O) (Bo 100 O (Yq O) (Bo 107 O (Gm O) ?_)))))))))))))
       refine Bo 107 O (rms O) (Bo 107 O (Gm O) (Bo 107 O (Gu O O (wI Y)) (Bo 107 O (H8 (i:=ws0.length) O O Y Y underlying55 MB) (Bo 107 O (XJ H 3 O O hx Gh) (Bo 107 O (D7 O O Y) (Bo 100 O (Iz (v:= .bool _) O O) (DW O O (BH O (AO (DF (Dz O (AQ O (mD ?_)))))))))))))
       refine Hu O O (Xr (c:=((ws0.length:Nat):Int)) O O zW) (AV (P6 (j:=ws0.length) O O O Y underlying55 MB) (EM O (AZ (CS (Dp ?_)))))
       have B1:=S.B.pop R1 O1 hrg1
       have S1:=(S.pop B1 O1.E).2
       rw[hw0]at S1
       have Wn:=O1.pH
       rw[←Wn]at H
       have H2:=H.Ro 3 rfl (m:=ws0.length) Y
       simp only[Bf,Bd,GY]at H2
       rw[htk]at H2
       exact⟨g,d1,h1,l,T,_,ws0,mv,pP,pT,some ⟨qA,0,none⟩,wc,S1,hg,rfl,by rw[Wn];rfl,rfl,rfl,rfl,rfl,rfl,rfl,rfl,H2.BQ [2,3,4,5,0,1] rfl rfl⟩
     ·by_cases k2:u.f0=2
      ·have hPu:=fun{W:World} hE=>asA (g:=g) (d:=d) (h:=h) (pT:=pT) (w:=W) hE S.B.R hg hk1 hk2 T S.B.tr (fun x hx=> .inr hx) Y Y S.B.V5 S.B.rg
       refine E8 (AP (iq ?_))
       refine iq ?_
       refine pJ ?_
       refine Bg O (nG ?_)
       refine BI O alm (BG H 0 O O O Gh (s_call O (hPu (H.BQ [3,5] O O).ents) (awT O) ?_))
       rintro e W1 ⟨d1,h1,T1,G1,R1,O1,hT1,hp1,hg1,hh1,hrg1,rfl,H'⟩
       refine⟨_,rfl,?_⟩
       have H:=(H.order [3,5,0,1,2,4] rfl rfl:Heap w [] ([_,_]++ [_,_,_,_]) _).step H' (fun i hi=>hi);clear H';simp only[Bv]at H
       refine iO ?_
       refine AO (vZ ?_)
       refine BI O alm (BG H 2 O O O Gh (QO (q:=u.f2) H 4 O O O O O (gk) underlying56 ?_))
       clear H;refine axS fun _ H=>?_
       refine AZ (CS (Dp ?_))
       have B1:=S.B.tree R1 O1 hT1 hg1 hh1 hrg1
       have S1:=S.put Y B1 hp1 O1.E
       have Wn:=O1.pH
       rw[←Wn]at H
       exact⟨g,d1,h1,l,T1,_,ws,_,pP,pT,WA,wc,S1,hg,rfl,by rw[Wn];rfl,rfl,rfl,rfl,rfl,rfl,rfl,rfl,H.BQ [2,3,4,0,5,1] rfl rfl⟩
      ·by_cases k3:u.f0=3
       ·cases hm:FZ mv u.f1 with
        |none=>
         have hDe:=fun{W:World} hE=>aiZ (g:=g) (d:=d) (h:=h) (pT:=pT) (w:=W) hE S.B.R T S.B.tr S.B.V5 (by rw[S.get,hm]:T.pl.get u.f1=none) S.B.rg
         have hmd:=(Ur mv u.f1 ((IE _ _).1 hm)).2.2
         have B1:=S.B.drop (r:=Pj 0 0 0 0) rfl
         have S1:=S.next B1 rfl
         refine oJ ?_
         refine pJ ?_
         refine Bg O (nG ?_)
         refine s_call O (hDe (H.BQ [3,5] O O).ents) (auJ O) ?_
         rintro e W1 ⟨rfl,H'⟩
         refine⟨_,rfl,?_⟩
         have H:=(H.order [3,5,0,1,2,4] rfl rfl:Heap w [] ([_,_]++ [_,_,_,_]) _).step H' (fun i hi=>hi);clear H';simp only[Bv]at H
         refine AY O (AO (AP (BX O (BX O (Df 143 O O (Df 143 O O (DW O O (BX O (Bo 147 O (Yq O) (Bo 147 O (Ib O) (Bo 147 O (Yq O) (Bo 150 O (Gm O) (Bo 150 O (D7 O O Y) ?_)))))))))))))
         refine Bo 147 O (Iz (v:= .bool _) O O) (DW O O (BH O (AO (vZ ?_))))
         refine aoJ H 4 O O O O (gk) underlying56 ?_
         clear H;refine axS fun _ H=>?_
         refine AZ (CS (Dp ?_))
         rw[hmd]at H
         exact⟨g,d,_,l,T,_,ws,mv,pP,pT,WA,wc,S1,hg,rfl,rfl,rfl,rfl,rfl,rfl,rfl,rfl,rfl,H.BQ [2,3,4,0,5,1] rfl rfl⟩
        |some v=>
         have hDe:=fun{W:World} hE=>amm (g:=g) (d:=d) (h:=h) (pT:=pT) (w:=W) hE S.B.R hg T S.B.tr (fun x hx=> .inr hx) Y Y S.B.V5 (by rw[S.get,hm]:T.pl.get u.f1=some v) S.B.rg
         refine oJ ?_
         refine pJ ?_
         refine Bg O (nG ?_)
         refine s_call O (hDe (H.BQ [3,5] O O).ents) (auJ O) ?_
         rintro e W1 ⟨d1,h1,T1,G1,R1,O1,hT1,hp1,hg1,hh1,hrg1,rfl,H'⟩
         refine⟨_,rfl,?_⟩
         have H:=(H.order [3,5,0,1,2,4] rfl rfl:Heap w [] ([_,_]++ [_,_,_,_]) _).step H' (fun i hi=>hi);clear H';simp only[Bv]at H
         refine AY O (AO (AP (BX O (BX O (Bo 143 O (Gm O) (Bo 143 O (D7 O O Y) (EZ O O (BX O (Df 147 O O (Df 147 O O (Df 147 O O (Je 150 O (Je 150 O ?_)))))))))))))
         refine Df 147 O O (EZ O O (BH O (AO (vZ ?_))))
         refine aoJ H 4 O O O O (gk) underlying56 ?_
         clear H;refine axS fun _ H=>?_
         refine AZ (CS (Dp ?_))
         have B1:=S.B.tree R1 O1 hT1 hg1 hh1 hrg1
         have S1:=S.del Y hnd hm B1 hp1 O1.E
         have Wn:=O1.pH
         rw[←Wn]at H
         exact⟨g,d1,h1,l,T1,_,ws,_,pP,pT,WA,wc,S1,hg,rfl,by rw[Wn];rfl,rfl,rfl,rfl,rfl,rfl,rfl,rfl,H.BQ [2,3,4,0,5,1] rfl rfl⟩
       ·by_cases k4:u.f0=4
        ·obtain⟨k,hk⟩:∃k:Nat,u.f1%50=k:=⟨(u.f1%50).toNat,by have:=Int.emod_nonneg u.f1 (show(50:Int)≠0 by omega);omega⟩
         have axR:k<50:=by have:=Int.emod_lt_of_pos u.f1 (show(0:Int)<50 by omega);omega
         have hCo:=fun{W:World} hE=>ai2 (g:=g) (d:=d) (h:=h) (w:=W) hE S.B.R.ok hg S.B.R.gc S.B.kept k Y
         refine oJ ?_
         refine iq ?_
         refine pJ ?_
         refine Bg O (nG ?_)
         refine AV (Q8 O O ⟨hk1.1,Y⟩) ?_
         refine Hu O O (adZ (c:=(k:Int)) O Aw underlying3 (by rw[hk];exact wI Y)) ?_
         refine s_call O (hCo (H.Bl 5 O)) (awr O) ?_
         rintro e W1 ⟨b1,d1,h1,hO1,hC1,G1,rfl,H'⟩
         refine⟨_,rfl,?_⟩
         have H:=H.CX 5 rfl H';clear H';simp only[Bv]at H
         refine Dt O (jR ?_)
         refine CV O O (BH O (AY O (AO (DF (AQ O (iO ?_))))))
         refine AZ (CS (Dp ?_))
         obtain⟨B1,Wn,hE1⟩:=S.B.gst hO1 hC1 G1
         have S1:=S.next B1 hE1
         rw[←Wn]at H
         exact⟨g,d1,h1,l,T,_,ws,mv,pP,pT,WA,wc,S1,hg,rfl,by rw[Wn];rfl,rfl,rfl,rfl,rfl,rfl,rfl,rfl,H⟩
        ·by_cases k5:u.f0=5
         ·have hDv:=fun{W:World} hE=>aa9 (g:=g) (d:=d) (h:=h) (w:=W) hE
          have hCr:=fun{W:World} hE=>aro g d (64*40) none 0 0 [] W hE S.B.R.ok.dev.dv.I.ok hg Y (fun h=>absurd rfl h) rfl J Y
          rw[adl,S.B.last]at hCr
          have hOp:=fun{g2:Geo} (hg2:Q5 g2 (64*40)) {W:World} hE=>akM (g:=g2) (d:=Nv.load d.cache (64*40)) (m:=64*40) (n:=40) (w:=W) aeE ahT Y hE hg2 S.B.arn S.B.good
          refine oJ ?_
          refine iq ?_
          refine iq ?_
          refine pJ ?_
          refine Bg O (BL H O (hDv (H.Bl 5 O)) (aqI O) fun W1 H=>s_call O (hCr ((Heap.start (H.Bl 5 O)).abu 1 O)) (awQ O) ?_)
          rintro e W1 ⟨g2,rfl,hg2,H'⟩
          refine⟨_,rfl,?_⟩
          have H:=H.more (A:=[grp _]) (Io H');clear H';simp only[Bv]at H
          refine s_call O (hOp hg2 (H.Bl 0 O)) (au' O) ?_
          rintro e W1 ⟨d1,L,h1,N,hop,hok,hM1,e1,e2,e3,e4,e5,e6,rfl,H'⟩
          refine⟨_,rfl,?_⟩
          have H:=H.CX 0 rfl H';clear H';simp only[Bv]at H
          refine fJ ?_
          refine AO (iQ ?_)
          refine AV (Dc O O Y) (BX O (Bo 182 O (Ls O) (Bo 182 O (aa8 O O underlying29) (gQ ?_))))
          refine AP (Bg O (Fb O (AO (DF (Bg O (s_call O (acD _ _) (as6 O) ?_))))))
          rintro e W1 ⟨pP2,pT2,rfl,H'⟩
          refine⟨_,rfl,?_⟩
          have H:=H.more H';clear H';simp only[Bv]at H
          refine Dt O (vO ?_)
          refine vO ?_
          refine jR ?_
          refine Fb O (Fb O (BH O (AZ (CS (Dp ?_)))))
          have B1:=S.B.open hop hok hM1 e3 e4 e5 e6
          have S1:=S.next B1 e2
          exact⟨g2,d1,h1,l,T,_,ws,mv,pP2,pT2,WA,wc,S1,hg2,rfl,rfl,rfl,rfl,rfl,rfl,rfl,rfl,rfl,H.BQ [3,4,5,0,1,2] rfl rfl⟩
         ·have S1:=S.next S.B rfl
          refine oJ ?_
          refine iq ?_
          refine iq ?_
          refine dX ?_
          refine AO (DC O (DF (BH O (AZ (CS (Dp ?_))))))
          exact⟨g,d,h,l,T,_,ws,mv,pP,pT,WA,wc,S1,hg,rfl,rfl,rfl,rfl,rfl,rfl,rfl,rfl,rfl,H⟩
   clear H S hwl hll hsz hml hAb hEb hnd
   rintro f W ⟨g,d,h,l,T,A,ws,mv,pP,pT,WA,wc,S,hg,f0,f3,f5,f6,f7,f8,f9,f10,f11,H⟩
   obtain⟨f,rfl⟩:=apB f0 f3 f5 f6 f7 f8 f9 f10 f11
   clear f0 f3 f5 f6 f7 f8 f9 f10 f11
   have hwl:ws.length=l.length:=by rw[S.ws];simp
   have hsz:=S.sz
   have hml:=S.ml
   have hll:=S.ll
   have hGe:=fun{W:World} hE=>akl (g:=g) (d:=d) (h:=h) (pT:=pT) (w:=W) hE S.B.R.ok T S.B.tr S.B.V5 u.f1
   have hPl:=fun{W:World} hE=>auO (g:=g) (d:=d) (h:=h) (pP:=pP) (w:=W) hE S.B.R.ok l S.B.pl S.B.V2 Y
   have hTl:=fun{W:World} hE=>as1 (g:=g) (d:=d) (h:=h) (pT:=pT) (w:=W) hE S.B.R.ok T S.B.tr S.B.V5 Y
   rw[S.get]at hGe
   cases hm:FZ mv u.f1 with
   |none=>
    rw[hm,Option.getD_none,Option.isSome_none]at hGe
    refine AX (ru ?_)
    refine Bg O (nG ?_)
    refine BL H O (hGe (H.BQ [3,5] O O).ents) (aob O) fun W1 H=>aF ?_
    refine AO (AP (vN ?_))
    refine AO (AP (Bg O (BL H O (hPl (H.BQ [4,5] O O).ents) (auI O) fun W1 H=>qR ?_)))
    rintro e W1 ⟨rfl,H'⟩
    refine⟨_,rfl,?_⟩
    have H:=H.same H';clear H'
    refine iV ?_
    refine xJ ?_
    exact⟨_,_,Y,rfl,i+1,g,d,h,l,T,A,ws,mv,pP,pT,bm,WA,wc,Y,Y,rfl,S,hg,rfl,rfl,rfl,rfl,rfl,rfl,rfl,H.drop⟩
   |some v=>
    rw[hm,TB,Option.isSome_some]at hGe
    refine AX (ru ?_)
    refine Bg O (nG ?_)
    refine BL H O (hGe (H.BQ [3,5] O O).ents) (aob O) fun W1 H=>aF ?_
    refine AO (AP (uU ?_))
    refine AO (AP (Bg O (BL H O (hPl (H.BQ [4,5] O O).ents) (auI O) fun W1 H=>qR ?_)))
    rintro e W1 ⟨rfl,H'⟩
    refine⟨_,rfl,?_⟩
    have H:=H.same H';clear H'
    refine iV ?_
    refine xJ ?_
    exact⟨_,_,Y,rfl,i+1,g,d,h,l,T,A,ws,mv,pP,pT,bm,WA,wc,Y,Y,rfl,S,hg,rfl,rfl,rfl,rfl,rfl,rfl,rfl,H.drop⟩
  ·refine iQ ?_
   refine Dz O (Eb O underlying50 (AV (DI O O Y) (BX O (Bo 52 O (Gm O) (Bo 52 O (Di O O Y) (EZ O O (AO (eG ?_))))))))
   refine AP (iP ?_)
   exact⟨rfl,H.only.below⟩
 ·refine iQ ?_
  refine Dz O (Eb O underlying50 (AV (Di O O Y) (BX O (Df 52 O O (Df 52 O O (DW O O (AO (eG ?_))))))))
  refine AP (iP ?_)
  exact⟨rfl,H.only.below⟩
end
end
end Go.Proofs.YtppilhpcmkekbaaGreat
