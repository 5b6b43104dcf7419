/-
  TopImages: for every input the Go function answers true, and its arguments read afterwards as they read before. No condition.
-/
import Derived.Test.YtppilhpcmkekbaaGreatKTopImagesm
import Derived.Test.YtppilhpcmkekbaaGreatKTopImagest
set_option linter.unusedSimpArgs false
set_option linter.unusedVariables false
set_option linter.unusedSectionVars false
set_option maxRecDepth 100000
set_option maxHeartbeats 16000000
namespace Go.Proofs.YtppilhpcmkekbaaGreat
open Go.Proofs.Tryz
section
section
open Go.RowKit
theorem aox(w:World):Calls prog 16 [.agg [.bool true,.int .i64 0,.int .i64 0].toArray].toArray w fun e w'=>e= .returned (.bool true)∧Only [] w w':=by
 have H:=Heap.nil w
 refine BM 15 func16 O (Aw (DU H O O fun p1 _ H=>BN O (Au (Aw (BR O anB (BD H 0 O O O ag4 (BL O (AX 5 O (CB O anq) (AX 5 O (Ef H 0 O O O GU) (AX 5 O (Fv O O Y) (ED O O (BL O ?_))))))))))))
 refine AX 10 O (CB O asV) (AX 10 O (Ef H 0 O O O GU) (AX 10 O (Fv O O Y) (oJ ?_)))
 exact⟨rfl,H.only⟩
theorem aa1{x:Int}:∀(ys out:List Int),x∈ys.foldl Gr.come out→x∈out∨(x∈ys∧0≤x)
 | [],out,h=> .inl h
 |y::ys,out,h=>by
  rcases aa1 ys (Gr.come out y) h with h1|⟨h1,h2⟩
  ·unfold Gr.come at h1
   split at h1
   ·exact .inl h1
   ·rename_i hc
    rcases BJ.1 h1 with h2|h2
    ·exact .inl h2
    ·rw[Bf.1 h2]
     exact .inr ⟨J,by
      rcases Int.lt_or_le y 0 with h3|h3
      ·exact absurd (.inl h3) hc
      ·exact h3⟩
  ·exact .inr ⟨Ee _ h1,h2⟩
theorem JQ.off1{W:World}{ph:Nat}{hs:List Ob.H3}(h:JQ W [] (some ⟨ph,0,none⟩) hs){F:List Nat}(hF:ph∉F):JQ W F (some ⟨ph,0,none⟩) hs:=fun h0=>by
 obtain⟨b,o,e,_,hr⟩:=h h0
 injection e with e1
 injection e1 with e2 e3
 subst e2 e3
 exact⟨ph,0,rfl,hF,hr⟩
section
variable{g:Geo}{d:Nv.D}{m n k:Nat}{id E:Int}{hs:List Ob.H3}{R:List Int}{A:Int→Prop}{w:World}
theorem asg(hE:DW (Dz g d) w)(hk:Le d m n id hs k E R)(afz:n≤190)(hG:Tr.Good (Ob.pl n d.cache hs) (Ob.ptrs d.cache) R A):
 Calls prog 15 [ptr g.p].toArray w fun e w'=>(∃g' o,e= .returned (.tuple #[.agg g'.cells.toArray,.agg [.bool true,.int .i64 0,.int .i64 0].toArray,.int .i64 0])∧(∀G,(∀i∈G,i<w.heap.size)→LP w' G g')∧Rd d.cache (Ob.pl n d.cache hs) R o g'.rs g'.nodes∧g'.n=8∧g'.m=o.length)∧Only [] w w':=by
 have HD:=Heap.start hE
 have HG:=GZ hE
 have H:=Heap.nil w
 have hn:=hk.n2
 have hcl:=hk.len
 have hW:=hk.dv.U
 have hLn:=fun{W:World} hE=>Ze g d W hE
 rw[show(d.cache.length:Int)=(n:Int)*512 by omega]at hLn
 have hq:IntKind.i64.wrap ((n:Int)*512/512)=n:=by rw[show(n:Int)*512/512=n by omega];exact wI Y
 have hGR:=fun(W:World)=>aeD (n:Int) W Y
 rw[Su.FY n Y Y]at hGR
 have hGW:=fun(W:World)=>YD (n:Int) W Y
 have hHe:=fun{W:World} hE=>aj8 g d n hs W hE hW hk.hd hk.hl Y
 have hRo:=fun{W:World} hE=>ahX (g:=g) (w:=W) hE hk
 have hLa:=fun{t:Nat} {W:World} hE=>aby t g.p E k R R W hE hk.R8.1 hk.R8.1
 have hR8:=hk.R8.1
 have hpl:=fun a (h:Ob.pl n d.cache hs a=true)=>Ob.L8 h
 have apF:∀o,Oo (Ob.pl n d.cache hs) o→o.length≤512*n:=fun o ho=>Gr.QB _ o ho.nd fun x hx=>by have:=hpl x (ho.us x hx).2;omega
 have hCm:=fun{W:World} {p ph bm oc:Nat} {l:List (Int×Int)} {OA:Option Addr} {out:List Int} hD hS hE ho hn' c hc=>al1 (g:=g) (d:=d) (n:=n) (p:=p) (ph:=ph) (bm:=bm) (oc:=oc) (hs:=hs) (l:=l) (OA:=OA) (out:=out) (b:=true) (w:=W) hD hW Y hS hk.hl Y hk.sm hE ho hn' (by have:=apF _ ho;omega) c hc
 have hNd:=fun{W:World} {p ph bm oc:Nat} {l:List (Int×Int)} {OA:Option Addr} {out:List Int} hE hS ho hn' y hy hyp=>asz (g:=g) (d:=d) (n:=n) (p:=p) (ph:=ph) (bm:=bm) (oc:=oc) (hs:=hs) (l:=l) (OA:=OA) (out:=out) (b:=true) (w:=W) hE hW Y hS hk.hl Y hk.sm (fun o ho=>by have:=apF o ho;omega) ho hn' y hy hyp
 obtain⟨u,hu⟩:∃u,Ob.pl n d.cache hs=u:=⟨_,rfl⟩
 rw[hu]at apF hCm hNd hpl hG⊢
 have hu0:∀y,u y=true→0≤y:=fun y hy=>by have:=hpl y hy;omega
 have au5:u 0=false:=by
  cases h:u 0 with
  |false=>rfl
  |true=>have:=hpl 0 h;omega
 refine BM 105 func15 O (Aw (Ea H O O6 fun p2 _ H=>Ea H O aqn fun p3 _ H=>nV ?_))
 refine BI H O (hLn (HD.same H.only).ents) (PV O) fun W1 H=>AL (Rf O O Y hq) (AL (FP (XF _) O) (Ea H O acy fun p5 _ H=>Eh H 0 O O O O O O O G5 ?_))
 clear H;refine ayJ fun _ H=>?_
 refine Au (AP (Aw (qR ?_)))
 refine BI H O (hGR _) (apq O) fun W1 H=>AL (EM O) (BL O (AX 20 O (Je H 0 O O O H6 G5) (s_call (EP 20 Ak O) (hGW _) (akf O) ?_)))
 rintro e W1 ⟨rfl,H'⟩
 refine⟨_,rfl,?_⟩
 have H:=H.same H';clear H'
 refine AX 20 O (MQ O) (s_call (EP 20 Ak O) (hLn (HD.same H.only).ents) (PV O) ?_)
 rintro e W1 ⟨rfl,H'⟩
 refine⟨_,rfl,?_⟩
 have H:=H.same H';clear H'
 refine AX 20 O (Dc O O Y) (fE ?_)
 refine Aw (BF O (qR ?_))
 refine agR kT (Value.int .i64) H O ?_
 intro bm _ H';clear H;have H:=H';clear H'
 refine AL (FP (aff _ _ _) O) (DU H O O fun p33 _ H=>EX O (Au (Aw (BF O (BF O (BF O (Dn H 2 O O O H6 G5 (s_call O (hHe (HD.same H.only).ents) (awV O) ?_))))))))
 rintro e W1 ⟨ph,rs,rfl,H'⟩
 refine⟨_,rfl,?_⟩
 have H:=H.more H';clear H';simp only[Bv]at H
 refine kG ?_
 refine Dl O (BR O aiS (Ic (u:= .slice _ _ _) H 1 O O O O O O atN ?_))
 clear H;refine ayJ fun _ H=>?_
 refine Dl O (BR O adT (AL (JV O anq) (Ic (u:= .int _ _) H 1 O O O O O O Kz ?_)))
 clear H;refine ayJ fun _ H=>?_
 refine Au (Aw (Ea H O O6 fun p7 _ H=>Au (Aw (BF O (s_call O (hRo (HD.same H.only).ents) (atl O) ?_)))))
 rintro e W1 ⟨t,rfl,H'⟩
 refine⟨_,rfl,?_⟩
 have H:=H.more H';clear H';simp only[Bv]at H
 refine dU ?_
 refine nR ?_
 refine eY ?_
 refine BR O adT (AL (JV O anB) (Ic (u:= .bool _) H 3 O O O O O O sz4 ?_))
 clear H;refine ayJ fun _ H=>?_
 refine Au (AP (Aw (BF O (BI H O (hLa (H.one 0 O)) (asR O) fun W1 H=>tV ?_))))
 replace H:Heap w [] (Uf p33 g.p n ph bm [] none 0 [] true++ [blk p7 [.slice none 0 0,.slice none 0 0] 25,Dw 1 (.slice none 0 0) 0 [] 3,blk p3 [.bool false,.int .i64 0,.int .i64 0] 46,blk p2 [.slice none 0 0,.slice none 0 0] 25,hrow ph hs rs]) _:=((H.G6 1 3).G6 1 3).Ew [5,6,0,3,1,8,9,4] rfl rfl
 replace H:=(Heap.agS H).order [1,2,0,3,4,5] rfl rfl
 have hn0:=Tz.nil
 refine Ec (fun z f W=>∃(i:Nat) (RA:Option Addr) (cR:Nat) (l:List (Int×Int)) (OA:Option Addr) (oc:Nat) (out:List Int),i≤8∧z=8-i∧Tz l out∧Oo u out∧Kn out ((R.take i).map (NM u))∧out=((R.take i).map (NM u)).foldl Gr.come []∧f 2=ptr p2∧f 3=ptr p3∧f 6=ptr p33∧f 7=ptr p7∧f 64= .agg (R.map (Value.int .i64)).toArray∧f 65= .int .i64 i∧Heap w [] [blk p7 [.slice RA i cR,.slice none 0 0] 25,Dw 1 (.slice RA i cR) i ((((R.take i).map (NM u)).map (Gr.J3 out)).map (Value.int .i64)) 3,grp (Uf p33 g.p n ph bm l OA oc out true),blk p3 [.bool false,.int .i64 0,.int .i64 0] 46,blk p2 [.slice none 0 0,.slice none 0 0] 25,hrow ph hs rs] W) 8 ⟨0,none,0,[],none,0,[],Y,rfl,hn0,Oo.nil u,fun y hy=>by simp at hy,rfl,rfl,rfl,rfl,rfl,rfl,rfl,H⟩ ?_
 clear H hn0
 rintro z f W ⟨i,RA,cR,l,OA,oc,out,hi,rfl,hnum,hoo,hkn,hout,f2,f3,f6,f7,f64,f65,H⟩
 by_cases hlt:i<8
 ·obtain⟨x,hx⟩:∃x,R[i]? =some x:=⟨_,Ar Y⟩
  have hxc:(R.map (Value.int .i64))[i]? =some (Value.int .i64 x):=by rw[BG,hx];rfl
  have hxu:x=0∨u x=true:=(hG.ro x (A8 hx)).imp (fun e=>e) fun h=>(hG.on x h).1
  obtain⟨mo,hmo,Xr,hkn2,hmap⟩:=Wn hu0 hoo hkn x
  have hts:(R.take i).map (NM u)++ [NM u x]=(R.take (i+1)).map (NM u):=by rw[←Jc hx,BU];rfl
  rw[hts]at hkn2 hmap
  have hC:=fun{W:World} hD hS hE=>hCm (W:=W) (p:=p33) (ph:=ph) (bm:=bm) (l:=l) (OA:=OA) (oc:=oc) hD hS hE hoo hnum x hxu
  rw[hmo]at hC
  have hout2:out++mo=((R.take (i+1)).map (NM u)).foldl Gr.come []:=by rw[←hts,Jq,←hout,←hmo];rfl
  generalize Gr.J3 (out++mo) (NM u x)=v at*
  obtain⟨f,rfl⟩:=PX f2 f3 f6 f7 f64 f65
  clear f2 f3 f6 f7 f64 f65
  refine ak ?_
  refine AL (ad5 (i:=i) (v:= .int .i64 x) O O O hlt hxc underlying103 Kz GU) (AQ O (Au ?_))
  refine Gu mixed ?_;replace H:=H.drew
  refine Eo 0 O O O (fun _ hS=>CB O IU) trivial (sG ?_)
  refine D6 1 4 ?_ ?_
  ·refine lG ?_
   refine kL ?_
   refine s_call O (hC (HD.same H.only).ents (H.Yq 5 O) (H.Bl 2 O)) (ao9 O) ?_
   rintro e W1 ⟨l',OW,oc',hn',rfl,H'⟩
   refine⟨_,rfl,?_⟩
   have H:=H.DN 2 rfl H';clear H';simp only[Bv]at H
   refine vZ ?_
   intro _ _ H';clear H;have H:=H';clear H'
   refine aH ?_
   clear H;intro RA' cR' _ H;simp only[Bv,Nat.reduceAdd]at H
   refine fZ ?_
   clear H;refine ayJ fun _ H=>?_
   refine jm ?_
   (try simp only[BU]at H);rw[←BU,hmap]at H;exact⟨_,_,Y,rfl,i+1,RA',cR',l',OW,oc',out++mo,Y,rfl,hn',Xr,hkn2,hout2,rfl,rfl,rfl,rfl,rfl,rfl,H⟩
  ·refine BO O (s_call O (hC (HD.same H.only).ents (H.Yq 5 O) (H.Bl 2 O)) (ao9 O) ?_)
   rintro e W1 ⟨l',OW,oc',hn',rfl,H'⟩
   refine⟨_,rfl,?_⟩
   have H:=H.DN 2 rfl H';clear H';simp only[Bv]at H
   refine aj ?_
   refine D6 1 5 ?_ ?_
   ·refine lG ?_
    refine vZ ?_
    intro _ _ H';clear H;have H:=H';clear H'
    refine aH ?_
    clear H;intro RA' cR' _ H;simp only[Bv,Nat.reduceAdd]at H
    refine fZ ?_
    clear H;refine ayJ fun _ H=>?_
    refine jm ?_
    (try simp only[BU]at H);rw[←BU,hmap]at H;exact⟨_,_,Y,rfl,i+1,RA',cR',l',OW,oc',out++mo,Y,rfl,hn',Xr,hkn2,hout2,rfl,rfl,rfl,rfl,rfl,rfl,H⟩
   ·refine BO O (cu ?_)
    intro _ _ H';clear H;have H:=H';clear H'
    refine nS ?_
    clear H;intro RA' cR' _ H;simp only[Bv,Nat.reduceAdd]at H
    refine fZ ?_
    clear H;refine ayJ fun _ H=>?_
    refine jm ?_
    (try simp only[BU]at H);rw[←BU,hmap]at H;exact⟨_,_,Y,rfl,i+1,RA',cR',l',OW,oc',out++mo,Y,rfl,hn',Xr,hkn2,hout2,rfl,rfl,rfl,rfl,rfl,rfl,H⟩
 ·obtain rfl:i=8:=Y
  obtain⟨f,rfl⟩:=PX f2 f3 f6 f7 f64 f65
  clear f2 f3 f6 f7 f64 f65
  refine je ?_
  refine tC ?_
  have htk:R.take 8=R:=by rw[←hR8];exact DL
  rw[htk]at hkn hout H
  obtain⟨fr,hfr⟩:∃fr,R.map (NM u)=fr:=⟨_,rfl⟩
  have ark:fr.length=8:=by rw[←hfr,Ci];exact hR8
  rw[hfr]at hkn hout H
  obtain⟨rv,hrv⟩:∃rv,fr.map (Gr.J3 out)=rv:=⟨_,rfl⟩
  rw[hrv]at H
  obtain⟨pt,hpt⟩:∃pt,oPt d.cache u=pt:=⟨_,rfl⟩
  have afB:out=Gr.ord pt fr 0:=hout
  have hA0:∀y∈out,A y:=fun y hy=>by
   rw[hout]at hy
   rcases aa1 fr [] hy with h1|⟨h1,h2⟩
   ·cases h1
   ·rw[←hfr]at h1
    obtain⟨z,hz,rfl⟩:=BX.1 h1
    rcases Xf u z with e|⟨e,e2⟩
    ·rw[e]at h2;omega
    ·rw[e]
     rcases hG.ro z hz with e3|h3
     ·rw[e3,au5]at e2;cases e2
     ·exact h3
  clear hout
  replace H:=((H.G6 2 77).aag).order [2,3,1,0,4,5,6,7] rfl rfl
  refine Ec (fun z f W=>∃(i':Nat) (NA:Option Addr) (cN:Nat) (ns:List FM) (l:List (Int×Int)) (OA:Option Addr) (oc:Nat) (out:List Int),i'≤out.length∧z=512*n-i'∧Tz l out∧Oo u out∧(∀y∈out,A y)∧Kn out fr∧fr.map (Gr.J3 out)=rv∧out=Gr.ord pt fr i'∧ns.length=i'∧ns.map (fun x=>(x.ps,x.ds))=(out.take i').map (fun y=>((pt y).map (Gr.J3 out),O5 d.cache y))∧(∀y∈out.take i',Kn out (pt y))∧(∀x∈ns,x.n≤63∧x.m≤16384)∧f 2=ptr p2∧f 3=ptr p3∧f 6=ptr p33∧f 7=ptr p7∧f 12= .int .i64 i'∧
   Heap w [] [blk p7 [.slice RA 8 cR,.slice NA i' cN] 25,Dw 1 (.slice RA 8 cR) 8 (rv.map (Value.int .i64)) 3,Dw 2 (.slice NA i' cN) i' ((ML ns).map C1.v) 77,grp (ns.map J4),grp (Uf p33 g.p n ph bm l OA oc out true),blk p3 [.bool false,.int .i64 0,.int .i64 0] 46,blk p2 [.slice none 0 0,.slice none 0 0] 25,hrow ph hs rs] W) (512*n) ⟨0,none,0,[],l,OA,oc,out,Y,rfl,hnum,hoo,hA0,hkn,hrv,afB,rfl,rfl,fun y hy=>by simp at hy,J,rfl,rfl,rfl,rfl,rfl,H⟩ ?_
  clear H hnum hoo hkn hrv afB hA0 l OA oc out
  rintro z f W ⟨i',NA,cN,ns,l,OA,oc,out,hi',rfl,hnum,hoo,hAo,hkn,hrv,hord,afR,YM,alN,aa4,f2,f3,f6,f7,f12,H⟩
  have hlo:=apF _ hoo
  by_cases hlt2:i'<out.length
  ·obtain⟨y,hy⟩:∃y,out[i']? =some y:=⟨_,Ar hlt2⟩
   have hym:=A8 hy
   have hAy:=hAo y hym
   obtain⟨hyu,hyp⟩:=hG.on y hAy
   obtain⟨qa,rfl⟩:=(Heap.start (H.Bl 4 rfl)).JC 2 rfl Y
   have hN1:=fun{W:World} hE hS=>hNd (W:=W) (p:=p33) (ph:=ph) (bm:=bm) (l:=l) (OA:=some ⟨qa,0,none⟩) (oc:=oc) hE hS hoo hnum y hyu fun z hz=>(hyp z hz).imp (fun e=>e) fun h=>(hG.on z h).1
   rw[hpt]at hN1
   obtain⟨f,rfl⟩:=Lr f2 f3 f6 f7 f12
   clear f2 f3 f6 f7 f12
   refine fJ ?_
   refine BF O (Dl O (BR O V4 (BD (Heap.start (H.Bl 4 O)) 0 O O O Fg (eU ?_))))
   refine eX ?_
   refine Jj (fun f W=>f 2=ptr p2∧f 3=ptr p3∧f 6=ptr p33∧f 7=ptr p7∧f 12= .int .i64 i'∧∃l' OW oc' out' PA cP DB dD np nq NA' cN',out'=(pt y).foldl Gr.come out∧Tz l' out'∧Oo u out'∧(∃mo,out'=out++mo)∧Kn out' (pt y)∧np≤63∧nq≤16384∧Heap w [] [blk p7 [.slice RA 8 cR,.slice NA' (i'+1) cN'] 25,Dw 1 (.slice RA 8 cR) 8 (rv.map (Value.int .i64)) 3,Dw 2 (.slice NA' (i'+1) cN') (i'+1) ((ML ns++ [C1.s PA np cP,C1.s DB nq dD]).map C1.v) 77,grp (ns.map J4),grp (Uf p33 g.p n ph bm l' OW oc' out' true),blk p3 [.bool false,.int .i64 0,.int .i64 0] 46,blk p2 [.slice none 0 0,.slice none 0 0] 25,hrow ph hs rs,grp [Dw 1 (.slice PA np cP) np (((pt y).map (Gr.J3 out')).map (Value.int .i64)) 3,Dw 1 (.slice DB nq dD) nq ((O5 d.cache y).map (Value.int .u64)) 26]] W) ?_ ?_
   ·refine Gu mixed ?_;replace H:=H.drew
    refine Dj 0 O O O (fun _ hS=>CB O Gg) trivial (Dj 2 O O O (fun _ hS=>BP (v:= .pointer _) O) trivial (Dj 3 O O O (fun _ hS=>BP (v:= .pointer _) O) trivial (Dj 4 O O O (fun _ hS=>ES O) trivial (Dj 5 O O O (fun _ hS=>CB O V4) trivial (Dj 7 O O O (fun _ hS=>BP (v:= .int _ _) O) trivial ?_)))))
    refine D6 1 6 ?_ ?_
    ·refine BO O (BD H 0 O O O Lm (nH ?_))
     refine uy ?_
     refine Bd 9 O (AL (L9 (Heap.start (H.Bl 4 O)) 2 O O hy GU) (qC ?_))
     refine dO ?_
     rintro e W1 ⟨l',OW,oc',out',PA,cP,DB,dD,np,nq,Me,Qi,Rq,hex,hkn',hnp,hnq,rfl,H'⟩
     refine⟨_,rfl,?_⟩
     have H:=((H.order [4,0,1,2,3,5,6,7] rfl rfl).abN).step H' (fun _ h=>h);clear H';simp only[Bv]at H;replace H:Heap w [] [_,_,_,_,_,_,_,_,_] _:=H.order [2,3,4,5,1,6,7,8,0] rfl rfl
     refine aj ?_
     refine Bd 11 O (gJ ?_)
     intro _ _ H';clear H;have H:=H';clear H'
     refine aj ?_
     refine iI ?_
     clear H;intro NA' cN' _ H;simp only[Bv,Nat.reduceAdd]at H
     refine aj ?_
     refine fG ?_
     clear H;refine ayJ fun _ H=>?_
     refine kV ?_
     exact⟨rfl,rfl,rfl,rfl,rfl,l',OW,oc',out',PA,cP,DB,dD,np,nq,NA',cN',Me,Qi,Rq,hex,hkn',hnp,hnq,H⟩
    ·refine BO O (uy ?_)
     refine D6 1 9 ?_ ?_
     ·refine BO O (BD H 0 O O O Lm (aj ?_))
      refine Bd 9 O (AL (L9 (Heap.start (H.Bl 4 O)) 2 O O hy GU) (qC ?_))
      refine dO ?_
      rintro e W1 ⟨l',OW,oc',out',PA,cP,DB,dD,np,nq,Me,Qi,Rq,hex,hkn',hnp,hnq,rfl,H'⟩
      refine⟨_,rfl,?_⟩
      have H:=((H.order [4,0,1,2,3,5,6,7] rfl rfl).abN).step H' (fun _ h=>h);clear H';simp only[Bv]at H;replace H:Heap w [] [_,_,_,_,_,_,_,_,_] _:=H.order [2,3,4,5,1,6,7,8,0] rfl rfl
      refine aj ?_
      refine Bd 11 O (gJ ?_)
      intro _ _ H';clear H;have H:=H';clear H'
      refine aj ?_
      refine iI ?_
      clear H;intro NA' cN' _ H;simp only[Bv,Nat.reduceAdd]at H
      refine aj ?_
      refine fG ?_
      clear H;refine ayJ fun _ H=>?_
      refine kV ?_
      exact⟨rfl,rfl,rfl,rfl,rfl,l',OW,oc',out',PA,cP,DB,dD,np,nq,NA',cN',Me,Qi,Rq,hex,hkn',hnp,hnq,H⟩
     ·refine BO O (AL (L9 (Heap.start (H.Bl 4 O)) 2 O O hy GU) (aj ?_))
      refine D6 1 10 ?_ ?_
      ·refine BO O (BD H 0 O O O Lm (qC ?_))
       refine dO ?_
       rintro e W1 ⟨l',OW,oc',out',PA,cP,DB,dD,np,nq,Me,Qi,Rq,hex,hkn',hnp,hnq,rfl,H'⟩
       refine⟨_,rfl,?_⟩
       have H:=((H.order [4,0,1,2,3,5,6,7] rfl rfl).abN).step H' (fun _ h=>h);clear H';simp only[Bv]at H;replace H:Heap w [] [_,_,_,_,_,_,_,_,_] _:=H.order [2,3,4,5,1,6,7,8,0] rfl rfl
       refine aj ?_
       refine Bd 11 O (gJ ?_)
       intro _ _ H';clear H;have H:=H';clear H'
       refine aj ?_
       refine iI ?_
       clear H;intro NA' cN' _ H;simp only[Bv,Nat.reduceAdd]at H
       refine aj ?_
       refine fG ?_
       clear H;refine ayJ fun _ H=>?_
       refine kV ?_
       exact⟨rfl,rfl,rfl,rfl,rfl,l',OW,oc',out',PA,cP,DB,dD,np,nq,NA',cN',Me,Qi,Rq,hex,hkn',hnp,hnq,H⟩
      ·refine BO O (dO ?_)
       rintro e W1 ⟨l',OW,oc',out',PA,cP,DB,dD,np,nq,Me,Qi,Rq,hex,hkn',hnp,hnq,rfl,H'⟩
       refine⟨_,rfl,?_⟩
       have H:=((H.order [4,0,1,2,3,5,6,7] rfl rfl).abN).step H' (fun _ h=>h);clear H';simp only[Bv]at H;replace H:Heap w [] [_,_,_,_,_,_,_,_,_] _:=H.order [2,3,4,5,1,6,7,8,0] rfl rfl
       refine aj ?_
       refine D6 1 11 ?_ ?_
       ·refine BO O (BD H 0 O O O Lm (aj ?_))
        refine Bd 11 O (gJ ?_)
        intro _ _ H';clear H;have H:=H';clear H'
        refine aj ?_
        refine iI ?_
        clear H;intro NA' cN' _ H;simp only[Bv,Nat.reduceAdd]at H
        refine aj ?_
        refine fG ?_
        clear H;refine ayJ fun _ H=>?_
        refine kV ?_
        exact⟨rfl,rfl,rfl,rfl,rfl,l',OW,oc',out',PA,cP,DB,dD,np,nq,NA',cN',Me,Qi,Rq,hex,hkn',hnp,hnq,H⟩
       ·refine BO O (gJ ?_)
        intro _ _ H';clear H;have H:=H';clear H'
        refine tH ?_
        refine BD H 1 O O O Lm (aj ?_)
        refine iI ?_
        clear H;intro NA' cN' _ H;simp only[Bv,Nat.reduceAdd]at H
        refine aj ?_
        refine fG ?_
        clear H;refine ayJ fun _ H=>?_
        refine kV ?_
        exact⟨rfl,rfl,rfl,rfl,rfl,l',OW,oc',out',PA,cP,DB,dD,np,nq,NA',cN',Me,Qi,Rq,hex,hkn',hnp,hnq,H⟩
   clear H
   rintro f W ⟨f2,f3,f6,f7,f12,l',OW,oc',out',PA,cP,DB,dD,np,nq,NA',cN',Me,Qi,Rq,hex,hkn',hnp,hnq,H⟩
   obtain⟨f,rfl⟩:=Lr f2 f3 f6 f7 f12
   clear f2 f3 f6 f7 f12
   refine jy ?_
   obtain⟨pv,hpv⟩:∃pv,(pt y).map (Gr.J3 out')=pv:=⟨_,rfl⟩
   rw[hpv]at H
   replace H:=(H.order [8,3,0,1,2,4,5,6,7] rfl rfl).XW (E:=J4 (FM.mk PA np cP pv DB nq dD (O5 d.cache y)))
   replace H:Heap w [] [_,_,_,_,_,_,_,_] _:=H.order [1,2,3,0,4,5,6,7] rfl rfl
   have e1:ns.map J4++ [J4 (FM.mk PA np cP pv DB nq dD (O5 d.cache y))]=(ns++ [(FM.mk PA np cP pv DB nq dD (O5 d.cache y))]).map J4:=by simp
   rw[e1]at H
   have e2:=Xx ns (FM.mk PA np cP pv DB nq dD (O5 d.cache y))
   obtain⟨mo,hmo⟩:=hex
   have alI:Oo u (out++mo):=by rw[←hmo];exact Rq
   have hy':out'[i']? =some y:=by rw[hmo,Ej hlt2];exact hy
   have am0:out'.take i'=out.take i':=by rw[hmo,Jo hi']
   have al3:out'.take (i'+1)=out.take i'++ [y]:=by rw[←Jc hy',am0]
   have hlo2:i'+1≤out'.length:=by rw[hmo,Cm];omega
   refine⟨_,_,?_,rfl,i'+1,NA',cN',ns++ [(FM.mk PA np cP pv DB nq dD (O5 d.cache y))],l',OW,oc',out',hlo2,rfl,Qi,Rq,fun z hz=>?_,by rw[hmo];exact hkn.more mo,by rw[hmo,hkn.map alI];exact hrv,?_,by simp[afR],?_,fun z hz=>?_,fun z hz=>?_,rfl,rfl,rfl,rfl,rfl,?_⟩
   ·omega
   ·rw[Me]at hz
    rcases aa1 (pt y) out hz with h1|⟨h1,h2⟩
    ·exact hAo z h1
    ·rw[←hpt]at h1
     obtain⟨q,hq,rfl⟩:=BX.1 h1
     rcases Xf u q with e|⟨e,e3⟩
     ·rw[e]at h2;omega
     ·rw[e]
      rcases hyp q hq with e4|h4
      ·rw[e4,au5]at e3;cases e3
      ·exact h4
   ·rw[Gr.ord,←hord,hy];exact Me
   ·rw[BU,YM,al3,BU,hmo,abo alI alN,←hmo,←hpv];rfl
   ·rw[al3]at hz
    rcases BJ.1 hz with hz|hz
    ·rw[hmo];exact(alN z hz).more mo
    ·rw[Bf.1 hz];exact hkn'
   ·rcases BJ.1 hz with hz|hz
    ·exact aa4 z hz
    ·rw[Bf.1 hz]
     exact⟨hnp,hnq⟩
   ·rw[e2];exact H
  ·have hio:i'=out.length:=Y
   have hto:out.take i'=out:=by rw[hio];exact DL
   rw[hto]at YM
   have hend:=Gr.aeL pt fr i' (by rw[←hord];exact hio.symm)
   rw[←hord]at hend
   have hfb:∀z,-9223372036854775808≤Gr.J3 out z∧Gr.J3 out z≤9223372036854775807:=fun z=>by
    have:=Gr.abR out z hoo.nd;omega
   have fin:∀{W:World},Heap w [] [blk p7 [.slice RA 8 cR,.slice NA i' cN] 25,Dw 1 (.slice RA 8 cR) 8 (rv.map (Value.int .i64)) 3,Dw 2 (.slice NA i' cN) i' ((ML ns).map C1.v) 77,grp (ns.map J4),grp (Uf p33 g.p n ph bm l OA oc out true),blk p3 [.bool true,.int .i64 0,.int .i64 0] 46,blk p2 [.slice RA 8 cR,.slice NA i' cN] 25,hrow ph hs rs] W→(∃g' o,Ending.returned (.tuple #[.agg [.slice RA 8 cR,.slice NA i' cN].toArray,.agg [.bool true,.int .i64 0,.int .i64 0].toArray,.int .i64 0])= .returned (.tuple #[.agg g'.cells.toArray,.agg [.bool true,.int .i64 0,.int .i64 0].toArray,.int .i64 0])∧(∀G,(∀i∈G,i<w.heap.size)→LP W G g')∧Rd d.cache u R o g'.rs g'.nodes∧g'.n=8∧g'.m=o.length)∧Only [] w W:=fun{W} H=>by
    have hok:=fun G hG=>agp (G:=G) hG (n:=8) (m:=i') (by rw[←hrv,Ci,ark]) afR (H.order [1,2,3,0,4,5,6,7] rfl rfl) Y Y (fun p hp=>by
     rw[←hrv]at hp
     obtain⟨z,_,rfl⟩:=BX.1 hp
     exact hfb z) (fun x hx=>by
     obtain⟨h1,h2⟩:=aa4 x hx
     have h3:(x.ps,x.ds)∈out.map (fun y=>((pt y).map (Gr.J3 out),O5 d.cache y)):=by rw[←YM];exact BX.2 ⟨x,hx,rfl⟩
     obtain⟨y,hy,he⟩:=BX.1 h3
     injection he with he1 he2
     refine⟨Y,Y,fun p hp=>?_,fun p hp=>?_⟩
     ·rw[←he1]at hp
      obtain⟨z,_,rfl⟩:=BX.1 hp
      exact hfb z
     ·rw[←he2]at hp
      unfold O5 at hp
      obtain⟨q,_,rfl⟩:=BX.1 hp
      exact Ob.QG hW _)
    exact⟨⟨⟨RA,8,cR,rv,NA,i',cN,ns⟩,out,rfl,hok,⟨by rw[hpt,hfr];exact hend,by rw[hfr];exact hrv.symm,by rw[hpt];exact YM⟩,rfl,hio⟩,H.only⟩
   obtain⟨f,rfl⟩:=Lr f2 f3 f6 f7 f12
   clear f2 f3 f6 f7 f12
   refine fJ ?_
   refine BF O (Dl O (BR O V4 (BD (Heap.start (H.Bl 4 O)) 0 O O O Fg (eU ?_))))
   refine kH ?_
   refine AP ?_
   refine Gu mixed ?_;replace H:=H.drew
   refine Eo 1 O O O (fun _ hS=>BP (v:= .pointer _) O) trivial (Eo 2 O O O (fun _ hS=>ES O) trivial (Eo 3 O O O (fun _ hS=>CB O adT) trivial ?_))
   refine D6 0 4 ?_ ?_
   ·refine BO O (Dn H 0 O O O MO Jg (aj ?_))
    refine D6 4 5 ?_ ?_
    ·refine BO O (lI ?_)
     refine iE ?_
     refine Eh H 6 O O O O O O O Jg ?_
     clear H;refine ayJ fun _ H=>?_
     refine nH ?_
     refine Eh H 5 O O O O O O O aaG ?_
     clear H;refine ayJ fun _ H=>?_
     refine ng ?_
     exact fin H
    ·refine BO O (Eh H 6 O O O O O O O Jg ?_)
     clear H;refine ayJ fun _ H=>?_
     refine kL ?_
     refine lI ?_
     refine nH ?_
     refine Eh H 5 O O O O O O O aaG ?_
     clear H;refine ayJ fun _ H=>?_
     refine ng ?_
     exact fin H
   ·refine BO O (lI ?_)
    refine aj ?_
    refine Bd 0 O (Dn H 0 O O O MO Jg (iE ?_))
    refine Eh H 6 O O O O O O O Jg ?_
    clear H;refine ayJ fun _ H=>?_
    refine nH ?_
    refine Eh H 5 O O O O O O O aaG ?_
    clear H;refine ayJ fun _ H=>?_
    refine ng ?_
    exact fin H
end
end
end
section
section
open Go.RowKit
def ahV(g:NP):Bool:=decide (g.n≤8∧g.m≤40∧Fh g=true∧∀x∈g.ns,x.m≤100∧x.n≤20)
theorem avW(g:NP)(w:World)(hg:LP w [] g):
 Calls prog 6 [.agg g.cells.toArray].toArray w fun e w'=>e= .returned (.bool (ahV g))∧Only [] w w':=by
 have H:=Heap.nil w
 have hnl:=hg.nl
 have hnb:=hg.nb
 have hmb:=hg.mb
 have hRi:=fun{W:World} (h:Only [] w W)=>Yz g W (hg.later h J)
 have hbad:∀x∈g.ns,¬(x.m≤100∧x.n≤20)→ahV g=false:=fun x hx h=>decide_eq_false fun h2=>h (h2.2.2.2 x hx)
 unfold NP.cells at*
 by_cases h1:g.n≤8
 ·by_cases h2:g.m≤40
  ·cases hr:Fh g with
   |true=>
    rw[hr]at hRi
    refine BM 44 func6 O (Aw (DU H O O fun p1 _ H=>BN O (Au (AP (Aw (kW ?_))))))
    rintro e W1 ⟨rfl,H'⟩
    refine⟨_,rfl,?_⟩
    have H:=H.same H';clear H'
    refine AX 14 O (EM O) (fE ?_)
    refine tC ?_
    refine Ec (fun z f W=>∃i:Nat,i≤g.m∧z=g.m-i∧(∀j x,j<i→g.ns[j]? =some x→x.m≤100∧x.n≤20)∧f 1=ptr p1∧f 3= .int .i64 i∧Heap w [] [blk p1 [.slice g.A g.n g.c,.slice g.B g.m g.d] 25] W) g.m ⟨0,Y,rfl,Y,rfl,rfl,H⟩ ?_
    clear H
    rintro z f W ⟨i,hi,rfl,hall,f1,f3,H⟩
    obtain⟨f,rfl⟩:=VT f1 f3
    clear f1 f3
    by_cases hlt:i<g.m
    ·obtain⟨x,hx⟩:∃x,g.ns[i]? =some x:=⟨_,Ar Y⟩
     have hxm:=A8 hx
     have hxo:=hg.ns.2 x hxm
     have hxn:=hxo.nb
     have hxd:=hxo.mb
     obtain⟨b,o,hB,_,hrd⟩:=hg.ns.1 Y
     have hc0:=hrd i x hx 0 _ rfl
     have hc1:=hrd i x hx 1 _ rfl
     rw[hB]at H
     by_cases aty:x.m≤100
     ·by_cases h20:x.n≤20
      ·refine qy ?_
       refine jS ?_
       refine AX 34 O (ER O O Y) (Dp O O (Au (DX O (Bj (jy ?_)))))
       rw[←hB]at H
       refine⟨_,_,?_,rfl,i+1,Y,rfl,fun j y hj hy=>?_,rfl,rfl,H⟩
       ·omega
       ·by_cases e:j=i
        ·subst e;rw[hx]at hy;injection hy with hy;subst hy;exact⟨aty,h20⟩
        ·exact hall j y Y hy
      ·rw[hbad x hxm (fun h=>h20 h.2)]
       refine qy ?_
       refine jS ?_
       refine AX 34 O (Jl O O Y) (Dp O O (wG ?_))
       refine jo ?_
       exact⟨rfl,H.only⟩
     ·rw[hbad x hxm (fun h=>aty h.1)]
      refine qy ?_
      refine gQ ?_
      refine AL (JV O Nc) (AL (Hq H O hc1 J JE) (Di O underlying55 (AL (Jl O O Y) (BL O (Cc 34 O O (Cc 34 O O (Cc 34 O O (Cc 34 O O (Cc 34 O O (Cc 34 O O (Cc 34 O O (Cc 34 O O (ED O O ?_)))))))))))))
      refine wG ?_
      refine jo ?_
      exact⟨rfl,H.only⟩
    ·obtain rfl:i=g.m:=Y
     rw[show ahV g=true from decide_eq_true ⟨h1,h2,hr,fun x hx=>by
      obtain⟨j,hj,rfl⟩:=DY.1 hx
      exact hall j _ Y (Ar hj)⟩]
     refine fJ ?_
     refine jf ?_
     refine kH ?_
     refine Aw (gZ ?_)
     exact⟨rfl,H.only⟩
   |false=>
    rw[hr]at hRi
    rw[show ahV g=false from decide_eq_false fun h=>by rw[hr]at h;exact absurd h.2.2.1 J]
    refine BM 44 func6 O (Aw (DU H O O fun p1 _ H=>BN O (Au (AP (Aw (kW ?_))))))
    rintro e W1 ⟨rfl,H'⟩
    refine⟨_,rfl,?_⟩
    have H:=H.same H';clear H'
    refine AX 14 O (Jm O) (Dp O O (iD ?_))
    exact⟨rfl,H.only⟩
  ·rw[show ahV g=false from decide_eq_false fun h=>h2 h.2.1]
   refine BM 44 func6 O (Aw (DU H O O fun p1 _ H=>BN O (Au (AP (Aw (BR O IU (iQ ?_)))))))
   refine AL (ER O O Y) (BL O (AX 8 O (CB O Gg) (AX 8 O (Ef H 0 O O O Lm) (AX 8 O (Ey O underlying23) (AX 8 O (Jl O O Y) (Dp O O (BL O (vS ?_))))))))
   refine ED O O (iD ?_)
   exact⟨rfl,H.only⟩
 ·rw[show ahV g=false from decide_eq_false fun h=>h1 h.1]
  refine BM 44 func6 O (Aw (DU H O O fun p1 _ H=>BN O (Au (AP (Aw (BR O IU (iQ ?_)))))))
  refine AL (Jl O O Y) (BL O (Cc 8 O O (Cc 8 O O (Cc 8 O O (Cc 8 O O (ED O O (BL O (vS ?_))))))))
  refine ED O O (iD ?_)
  exact⟨rfl,H.only⟩
section
variable{g:Geo}{d:Nv.D}{m n N:Nat}{id:Int}{h:Ko}{w:World}
theorem asD(hE:DW (h.L g d) w)(hO:Ia d m n id h N)(hrg:∀x∈h.rg,RI x):
 Calls prog 29 [ptr h.pH].toArray w fun e w'=>∃(l:List Bool) (A:Option Addr) (c:Nat),Ot d h.s (List.replicate d.cache.length false) l (h.rg.filter (· ≠0)++h.V)∧e= .returned (.slice A (Bm.elems l).length c)∧Only [] w w':=by
 have HR:=Heap.start hE
 have H:=Heap.nil w
 have hdl:=hO.dev.len
 have hn:=hO.dev.n2
 have hW:=hO.dev.dv.U
 have h32:=hO.r32
 have hWk:=fun{W:World} hE=>af' h.t g.p h.E h.k h.R h.V W hE hO.dev.R8.1 hO.V8.1
 obtain⟨v0,v1,v2,v3,v4,v5,v6,v7,hV8⟩:=O3 hO.V8.1
 have hVm:(h.V.map (Value.int .i64))=[.int .i64 v0,.int .i64 v1,.int .i64 v2,.int .i64 v3,.int .i64 v4,.int .i64 v5,.int .i64 v6,.int .i64 v7]:=by rw[hV8];rfl
 rw[hVm]at hWk
 have hNw:=fun{W:World} hE=>aqm g d h.s W hE Y
 have hAl:=fun{W:World} hE=>au7 (w:=W) (b:=h.pH) (p:=g.p) (pA:=h.s.pA) (t:=h.t) (Qb:=h.hP) (pC:=h.pC) (Qd:=h.sP) (R:=h.rg) hE h32
 obtain⟨q35,q36,q37,q38⟩:=ab9 (p:=g.p) (pA:=h.s.pA) (t:=h.t) (Qb:=h.hP) (pC:=h.pC) (Qd:=h.sP) h32
 have hVx:∀x∈h.rg.filter (· ≠0)++h.V,RI x:=fun x hx=>by
  rcases BJ.1 hx with h1|h1
  ·exact hrg x (Jw.1 h1).1
  ·exact hO.V8.i64 x h1
 have hxl:(h.rg.filter (· ≠0)++h.V).length=(h.rg.filter (· ≠0)).length+8:=by rw[Cm,hO.V8.1]
 have hfl:(h.rg.filter (· ≠0)).length≤32:=by rw[←h32];exact O0 _ _
 have hh:∀a,Gz h.s.U a=true→Ob.hd d.cache a=true:=fun a ha=>(Ob.L8 (hO.al.us a ha)).2.2
 unfold Ko.L Ko.C at HR
 refine BM 25 func29 O (Aw (En O (uX ?_)))
 refine BR O Yh (BD (HR.same H.only) 0 O O O acU (BI H O (hWk ((HR.same H.only).one 2 O)) (au6 O) fun W1 H=>Ea H O Vg fun p3 _ H=>wu ?_))
 clear H;refine ayJ fun _ H=>?_
 refine uX ?_
 refine BR O Z9 (BD (HR.same H.only) 0 O O O Om (s_call O (hNw ((HR.same H.only).Bl 1 O)) (auT O) ?_))
 rintro e W1 ⟨pH,pS,b,A,c,rfl,hs0,H'⟩
 refine⟨_,rfl,?_⟩
 have H:=H.more H';clear H';simp only[Bv]at H
 refine EX O (Au (AP ?_))
 have hRs:=fun{W:World} (LA:Option Addr) (ln lc:Nat) (xs:List Int) hE hQ hx hl hi=>aea (g:=g) (d:=d) (s:=h.s) (w:=W) (pH:=pH) (pS:=pS) (b:=b) (A:=A) (c:=c) (l:=List.replicate d.cache.length false) hE hW Y hO.al.su hh hs0 LA ln lc xs hQ hx hl hi
 have hSw:∀{W:World},Heap w [] [blk p3 [.int .i64 v0,.int .i64 v1,.int .i64 v2,.int .i64 v3,.int .i64 v4,.int .i64 v5,.int .i64 v6,.int .i64 v7] 103] W→Gm (Value.int .i64) W [] (some ⟨p3,0,none⟩) h.V:=fun H=>fun _=>⟨p3,0,rfl,J,H.V3 0 rfl hVm.symm⟩
 refine Jj (fun f W=>∃l,Ot d h.s (List.replicate d.cache.length false) l (h.rg.filter (· ≠0)++h.V)∧f 4=ptr pH∧Heap w [] [grp (hdE h.s.pA pH pS b A c l)] W) ?_ ?_
 ·rw[CV]at hRs
  refine Gu mixed ?_;replace H:=H.drew
  refine qg ?_
  refine Dj 1 O O O (fun _ hS=>BP (v:= .pointer _) O) trivial (Dj 2 O O O (fun _ hS=>ES O) trivial (Dj 3 O O O (fun _ hS=>CB O Pz) trivial (Dj 5 O O O (fun _ hS=>ai5 O underlying103 Kz Y) trivial (Bd 4 O (s_call O (hAl ((HR.same H.only).one 0 O)) (axq O) ?_)))))
  rintro e W1 ⟨OA,oc,rfl,H'⟩
  refine⟨_,rfl,?_⟩
  have H:=H.more H';clear H';simp only[Bv]at H
  refine nH ?_
  refine adA (enc:=(Value.int .i64)) H 0 O O O O ((hSw (H.Ew [2] O O))) (hO.V8.1) (fun _=>rfl) Y underlying22 GI O ?_
  clear H;intro A1 c1 _ H;simp only[Bv,Nat.reduceAdd]at H
  refine o7 ?_
  refine s_call O (hRs A1 _ c1 _ ((QD (HR.one 1 O) H).Ew [3,1] O O).ents ((VZ H).part (List.mem_cons_self)) hxl Y hVx) (arK O) ?_
  rintro e W1 ⟨l,hst,rfl,H'⟩
  refine⟨_,rfl,?_⟩
  have H:=H.DN 1 rfl H';clear H';simp only[Bv]at H
  refine kV ?_
  exact⟨l,hst,rfl,H.Ew [1] rfl rfl⟩
 clear H
 rintro f W ⟨l,hst,f4,H⟩
 obtain⟨f,rfl⟩:=aqx f4
 clear f4
 have hs1:=hs0.len2 hst.len
 refine AO (Aw (BF O (s_call O ((arn (H.Bl 0 O) hs1)) (axR O) ?_)))
 rintro e W1 ⟨B,q,rfl,H'⟩
 refine⟨_,rfl,?_⟩
 have H:=H.more H';clear H'
 refine oZ ?_
 exact⟨l,B,q,hst,rfl,H.only⟩
end
end
end
section
section
open Go.RowKit
theorem afZ(l:List Bool):(Bm.elems l).Nodup:=by
 unfold Bm.elems Bm.upto
 refine RX.2 ((List.nodup_range.filter _).imp ?_)
 intro i j hij e
 exact hij Y
theorem akx{l:List Bool}{x:Int}:x∈Bm.elems l↔Gz l x=true:=by
 constructor
 ·intro h
  obtain⟨h0,h1⟩:=Bm.apy h
  obtain⟨i,rfl⟩:=Bo h0
  have:=Bm.elem_iff.1 h
  unfold Gz
  rw[decide_eq_true h0,Bz,this];rfl
 ·intro h
  have h0:=(Za h).1
  obtain⟨i,rfl⟩:=Bo h0
  unfold Gz at h
  rw[decide_eq_true h0,Bz,GL]at h
  exact Bm.elem_iff.2 h
theorem aj'{l:List Bool}{a:Int}(h:∀x,Gz l x=true↔x=a):(Bm.elems l).length=1:=by
 have hp:(Bm.elems l).Perm [a]:=(Ri (afZ l) J).2 fun x=>by rw[akx,h,Bf]
 rw[hp.length_eq];rfl
theorem UG.head{m N k z a:Nat}{s:JZ}{p q:Int}{d d':Nv.D}{hs':List Ob.H3}{S' E':IL}{F':Nat→FQ}{MR:FrM}(hP:UG m s N p q z k d d' hs' S' E' F' MR a)(hp:0≤p∧p≤63)(hq:0≤q∧q≤16384)(haU:Gz (Bm.put s.U a true) a=true):Ob.hp d'.cache a=p∧Ob.hq d'.cache a=q:=by
 obtain⟨_,_,_,hhd,_,_,_,_⟩:=hP.al.obj hP.dv.U haU
 obtain⟨g1,g2,g3⟩:=Oh.Qx p q a hp.1 hp.2 hq.1 hq.2
 exact⟨by unfold Ob.hp;rw[if_pos hhd,hP.w0];exact g2,by unfold Ob.hq;rw[if_pos hhd,hP.w0];exact g3⟩
theorem ah'(w:World):Calls prog 5 [].toArray w fun e w'=>e= .returned (.bool true)∧Only [] w w':=by
 have H:=Heap.nil w
 have hNw:=fun(W:World)=>anx 4 1 3 Y ⟨Y,Y⟩ Y W
 obtain⟨k1,hk1⟩:=Bo (Cl.QO 3).1
 have J6:k1<32:=by have:=(Cl.QO 3).2;omega
 refine BM 29 func5 O (qU ?_)
 refine Aw (rH ?_)
 rintro e W1 ⟨g,d,h,N,hg,hF,rfl,H'⟩
 refine⟨_,rfl,?_⟩
 have H:=H.more H';clear H';simp only[Du]at H
 refine dU ?_
 refine oQ ?_
 refine AX 10 O (MQ O) (AX 10 O (Vh O O underlying29) (fE ?_))
 refine AP ?_
 have hNn:=hF.nn
 have hroom:lk h.s.F k1≠0∨∃b:Nat,UR h.s.hs h.s.n b:= .inr ⟨1,Y,by rw[hF.ok.sn];omega,(0,0,0),by rw[hF.hs];rfl,rfl⟩
 have hAl:=fun{W:World} hE=>aij (g:=g) (d:=d) (h:=h) (w:=W) hE hF.ok hg Y 0 Y 1 1 3 k1 Y Y Y Ae hk1 hroom
 have hSp:=fun{h:Ko} {d:Nv.D} {W:World} hE=>ain (g:=g) (d:=d) (h:=h) (w:=W) hE
 have hLv:=fun{h:Ko} {d:Nv.D} {N:Nat} {W:World} hE hO hr=>asD (g:=g) (d:=d) (m:=64*4) (n:=4) (N:=N) (id:=1) (h:=h) (w:=W) hE hO hr
 have hrg:=hF.rg
 have hV:=hF.V
 have key:∀{d' hs' S' E' F' MR} {a:Nat} {l:List Bool},UG (64*4) h.s N 1 1 3 k1 d d' hs' S' E' F' MR a→Ot d' (alS h.s hs' S' E' F' MR a) (List.replicate d'.cache.length false) l ((h.rg.set 0 (a:Nat)).filter (· ≠0)++h.V)→(Bm.elems l).length=1:=fun{d' hs' S' E' F' MR a l} hP hst=>by
  have hbd:=hP.ce.bd J6
  have hw:=Cl.Hg (k1:Int) Y Y
  have hul:=hF.ok.al.ul
  have hn2:=hF.ok.al.n2
  have hput:∀b,Gz (Bm.put h.s.U a true) b=if(a:Int)=b then true else Gz h.s.U b:=fun b=>Bm.XZ h.s.U a b true ⟨Y,Y⟩
  have haU:Gz (Bm.put h.s.U a true) a=true:=by rw[hput,if_pos rfl]
  have hon:∀x,Gz (Bm.put h.s.U a true) x=true→x=a:=fun x hx=>by
   rw[hput]at hx
   split at hx
   ·rename_i e;exact e.symm
   ·rw[hF.us]at hx;cases hx
  obtain⟨hp1,hq1⟩:=hP.head Y Y haU
  have hpt:∀y∈Ob.ptrs d'.cache a,y=0:=fun y hy=>by
   unfold Ob.ptrs Ob.OI at hy
   rw[hp1]at hy
   have h1:=hP.wz 1 Y Y
   simp only[Int.toNat_one,List.range_one,Dx,D5,Bf]at hy
   rw[hy]
   unfold Ob.pAt
   rw[show(a:Int)+(1+((0:Nat):Int))=((a+1:Nat):Int)by omega,h1]
   rfl
  have hcl:=hst.cl (fun x=>x=a∨x=0) (fun x _ hx y hy=>by
   obtain rfl:=hon x hx
   exact .inr (hpt y hy)) fun x hx=>by
   rcases BJ.1 hx with h1|h1
   ·rw[hrg]at h1
    have h2:=(Jw.1 h1).1
    rcases E5 h2 with h3|h3
    ·exact .inr (Jb h3)
    ·exact .inl h3
   ·rw[hV]at h1
    exact .inr (by simpa [zr8]using h1)
  have hll:l.length=512*4:=by
   rw[hst.len,CV,hP.dv.len]
  refine aj' (a:=(a:Int)) fun x=>⟨fun hx=>?_,fun hx=>?_⟩
  ·rcases hcl x hx with h1|⟨_,h1⟩
   ·rw[aeX]at h1;cases h1
   ·exact hon x h1
  ·subst hx
   refine hst.got a (BQ _ (Jw.2 ⟨?_,decide_eq_true Y⟩)) haU (by rw[CV,hP.dv.len];rw[hF.ok.sn]at hbd;omega)
   rw[hrg]
   exact List.mem_set J _
 refine DR (BF O (AL (FP (aul) O) (s_call O (hAl H.ents) (agY O) ?_)))
 rintro e W1 ⟨d',hs',S',E',F',MR,a,hP,rfl,H'⟩
 refine⟨_,rfl,?_⟩
 have H:=H.whole H';clear H';have hO2:=hF.ok.alloc hP J6 0
 refine AL (Fv O O Y) (BL O (AX 18 O (MQ O) (s_call (EP 18 Ak O) ((hSp H.ents)) (avr O) ?_)))
 rintro e W1 ⟨rfl,H'⟩
 refine⟨_,rfl,?_⟩
 have H:=H.same H';clear H'
 refine AX 18 O (ada O O underlying73) (ED O O (BL O (AX 23 O (MQ O) ?_)))
 refine s_call (EP 23 Ak O) ((hLv H.ents hO2 (fun x hx=>by rw[hrg]at hx;rcases E5 hx with h3|h3;(rw[Jb h3];exact⟨Y,Y⟩);(rw[h3];exact⟨Y,by have:=hP.ce.bd J6;have:=Cl.Hg (k1:Int) Y Y;have:=hF.ok.al.n2;omega⟩)))) (axG O) ?_
 rintro e W1 ⟨l,A,c,hst,rfl,H'⟩
 refine⟨_,rfl,?_⟩
 have hel:=key hP hst;have H:=H.same H';clear H'
 refine AX 23 O (Ey O underlying22) (AX 23 O (Fv O O Y) (oJ ?_))
 exact⟨rfl,H.only⟩
end
end
section
section
theorem akW(ws:List Int)(x:Int):SS ws x=0∨SS ws x∈ws:=by
 unfold SS
 split
 ·exact .inl rfl
 ·rw[Ba]
  cases e:ws[x.toNat]? with
  |none=>exact .inl rfl
  |some y=>exact .inr (A8 e)
theorem ata{ws:List Int}{i:Nat}(hi:i<ws.length):SS ws (i:Int)=ws[i]:=by
 unfold SS
 rw[if_neg Y,Bz,Ba,Ar hi];rfl
theorem Rd.uniq{c:List Int}{u:Int→Bool}{fr o o2 rs Xl:List Int}{ns XH:Gr.Nodes}(h:Rd c u fr o rs ns)(k:Rd c u fr o2 Xl XH):Xl=rs∧XH=ns:=h.same k (fun _ _=>rfl) fun _ _=>⟨rfl,rfl,fun _ _=>rfl⟩
theorem Rd.live{c:List Int}{u:Int→Bool}{R o rs L:List Int}{ns:Gr.Nodes}{P:Int→Bool}(h:Rd c u R o rs ns)(hL:Tr.acw P (Ob.ptrs c) R L)(hu0:u 0=false):∀x∈o,x∈L:=by
 refine JO.P h.ord (fun x=>x∈L) (fun x hx h0=>?_) fun x _ hxL y hy h0=>?_
 ·obtain⟨r,hr,rfl⟩:=BX.1 hx
  rcases Xf u r with e|⟨e,e2⟩
  ·rw[e]at h0;omega
  ·rw[e]
   rcases hL.ro r hr with e3|h3
   ·rw[e3,hu0]at e2;cases e2
   ·exact h3
 ·obtain⟨z,hz,rfl⟩:=BX.1 hy
  rcases Xf u z with e|⟨e,e2⟩
  ·rw[e]at h0;omega
  ·rw[e]
   rcases hL.on x hxL z hz with e3|h3
   ·rw[e3,hu0]at e2;cases e2
   ·exact h3
theorem Rd.turn{c c2:List Int}{u u2:Int→Bool}{R o o2 rs Xl L:List Int}{ns XH:Gr.Nodes}{P:Int→Bool}(h:Rd c u R o rs ns)(k:Rd c2 u2 R o2 Xl XH)(hL:Tr.acw P (Ob.ptrs c) R L)(hu:u 0=false)(hu':∀a∈L,u a=true)(h2:u2 0=false)(h2':∀a∈L,u2 a=true)
 (hc:∀x∈L,Ob.ptrs c2 x=Ob.ptrs c x∧O5 c2 x=O5 c x):Xl=rs∧XH=ns:=by
 have hlv:=h.live hL hu
 have ht:∀y,y=0∨y∈L→NM u2 y=NM u y:=fun y hy=>by
  unfold NM
  rcases hy with rfl|hy
  ·rw[hu,h2]
  ·rw[hu' y hy,h2' y hy]
 exact h.same k (fun r hr=>ht r (hL.ro r hr)) fun x hx=>⟨(hc x (hlv x hx)).1,(hc x (hlv x hx)).2,fun y hy=>ht y (hL.on x (hlv x hx) y hy)⟩
theorem ahO:∀(a b:List Int),a.Nodup→(∀x∈a,x∈b)→a.length≤b.length
 | [],_,_,_=>JK _
 |x::a,b,hd,hs=>by
  have h1:=hs x J
  have hx:=(GH.1 hd).1
  have:=ahO a (b.erase x) (GH.1 hd).2 fun y hy=>(PO (fun e=>hx (by rw[←e];exact hy))).2 (hs y (Ee _ hy))
  rw[NQ h1]at this
  have hp:=Ug h1
  rw[Em];omega
section
variable{d:Nv.D}{m n N:Nat}{id:Int}{h:Ko}{ws rs:List Int}{ns:Gr.Nodes}
theorem Built.pos(hB:Built d m n id h N ws rs ns){a:Int}(ha:a∈ws):512≤a∧a<512*n∧Ob.pl n d.cache h.s.hs a=true:=by
 have hu:=(hB.us a).2 ha
 obtain⟨_,_,_,_,b1,b2,b3,b4⟩:=hB.ok.al.obj hB.ok.dev.dv.U hu
 have h1:=hB.ok.al.us a hu
 have hsn:=hB.ok.sn
 rw[hsn]at h1 b4
 exact⟨b1,Y,h1⟩
theorem Built.none(hB:Built d m n id h N ws rs ns):Gz h.s.U 0=false:=by
 cases e:Gz h.s.U 0 with
 |false=>rfl
 |true=>have:=hB.pos ((hB.us 0).1 e);omega
theorem Built.good(hB:Built d m n id h N ws rs ns):Tr.Good (Ob.pl n d.cache h.s.hs) (Ob.ptrs d.cache) h.R (fun a=>a∈ws):=by
 refine⟨fun r hr=>?_,fun a ha=>⟨(hB.pos ha).2.2,fun y hy=>?_⟩⟩
 ·rw[hB.R,hB.V]at hr
  rcases BJ.1 hr with h1|h1
  ·obtain⟨x,_,rfl⟩:=BX.1 h1
   exact akW ws x
  ·exact .inl (Jb h1)
 ·obtain⟨i,hi,rfl⟩:=DY.1 ha
  rw[hB.pt i (by rw[←hB.len];exact hi) hi]at hy
  obtain⟨x,_,rfl⟩:=BX.1 hy
  exact akW ws x
theorem Built.shows(hB:Built d m n id h N ws rs ns)(ho:Gr.JO (Gr.ptr ns) rs (Gr.rng ns.length))(hr:Gr.Rt rs ns)(h8:rs.length=8):Shows d.cache (Gz h.s.U) h.V rs ns (SS ws):=by
 have hl:=hB.len
 have hat:∀x:Int,0≤x→x<(ns.length:Int)→∃(i:Nat) (hi:i<ws.length),x=i∧SS ws x=ws[i]:=fun x h0 h1=>by
  obtain⟨i,rfl⟩:=Bo h0
  have hi:i<ws.length:=Y
  exact⟨i,hi,rfl,ata hi⟩
 refine⟨ho,hr,fun x y x0 x1 y0 y1 e=>?_,fun x x0 x1=>?_,fun x hx=>?_,?_,fun x x0 x1=>?_,fun x x0 x1=>?_⟩
 ·obtain⟨i,hi,rfl,e1⟩:=hat x x0 x1
  obtain⟨j,hj,rfl,e2⟩:=hat y y0 y1
  rw[e1,e2]at e
  have:=anE hB.nd (Ar hi) (by rw[Ar hj,e])
  omega
 ·obtain⟨i,hi,rfl,e1⟩:=hat x x0 x1
  rw[e1]
  have hm:=FT hi
  exact⟨(hB.us _).2 hm,by have:=hB.pos hm;omega⟩
 ·unfold SS
  rw[if_pos hx];exact hB.none
 ·rw[hB.V,h8];simp
 ·obtain⟨i,hi,rfl,e1⟩:=hat x x0 x1
  have hi2:i<ns.length:=Y
  rw[e1,hB.pt i hi2 hi,Gr.ael,Ba,Ar hi2];rfl
 ·obtain⟨i,hi,rfl,e1⟩:=hat x x0 x1
  have hi2:i<ns.length:=Y
  rw[e1,hB.dt i hi2 hi,Gr.agK,Ba,Ar hi2];rfl
theorem Built.few(hB:Built d m n id h N ws rs ns){o:List Int}(ho:Oo (Gz h.s.U) o):o.length≤ns.length:=by
 rw[←hB.len]
 exact ahO _ _ ho.nd fun x hx=>(hB.us x).1 (ho.us x hx).2
theorem Built.size(hB:Built d m n id h N ws rs ns){a:Int}(ha:a∈ws):∃x∈ns,Rl d.cache a=1+(x.1.length:Int)+(x.2.length:Int):=by
 obtain⟨i,hi,rfl⟩:=DY.1 ha
 have hi2:i<ns.length:=by rw[←hB.len];exact hi
 have h1:=congrArg List.length (hB.pt i hi2 hi)
 have h2:=congrArg List.length (hB.dt i hi2 hi)
 have hb:=Ob.NG hB.ok.dev.dv.U ws[i]
 unfold Ob.ptrs at h1
 rw[Ob.Oe,Ci]at h1
 rw[Z7]at h2
 refine⟨ns[i],FT _,?_⟩
 unfold Rl
 omega
theorem Built.last(hB:Built d m n id h N ws rs ns):d.last=d.cache:=by
 have hI:=hB.ok.dev.dv.I
 have h1:=hI.ok.hl
 have h2:=hI.ok.hc
 apply FU Y
 intro i i1 i2
 have:=hI.cl i Y (hB.cl (i/8))
 simp only[Ba]at this
 rw[Ar i1,Ar i2]at this
 exact this
theorem Built.asC(hB:Built d m n id h N ws rs ns):Le (Nv.load d.cache m) m n id h.s.hs h.k h.E h.R:=
 hB.ok.dev.words (Dv.load hB.ok.dev.dv.len hB.ok.dev.dv.U) hB.ok.al.hd hB.ok.dev.hl hB.ok.dev.sm fun _ _=>rfl
end
end
end
section
section
open Go.RowKit
theorem LP.anI{w W:World}{L A:List Fp}{g:NP}(h:LP w [] g)(H:Heap w [] L W)(k:Nat)(hk:L[k]? =some (grp A)):LP W (ids A) g:=(h.fresh H).mono fun i hi=>KG.2 ⟨grp A,A8 hk,hi⟩
theorem Heap.atM{w0 W:World}{F:List Nat}{L:List Fp}{g:Geo}{d:Nv.D}{h:Ko}(H:Heap w0 F L W)(k:Nat)(hk:L[k]? =some (grp (h.L g d))):DW (Dz g d) W:=(Heap.start (H.Bl k hk)).IQ 1 rfl
theorem akp{c c':List Int}{a:Int}(hw:Ob.SQ c)(ha:512≤a)(hl:c'.length=c.length)(h:∀x:Int,512≤x→Nv.get c' x=Nv.get c x):Ob.ptrs c' a=Ob.ptrs c a∧O5 c' a=O5 c a∧Rl c' a=Rl c a:=by
 obtain⟨e1,e2,e3⟩:=Yk hl (h a ha)
 have hb:=Ob.NG hw a
 refine⟨abr ha hl h,?_,by unfold Rl;rw[e2,e3]⟩
 unfold O5
 rw[e2,e3]
 exact EU fun i _=>by rw[h _ Y]
theorem aoZ{d:Nv.D}{m:Nat}(hD:Dv d m)(hl:d.last=d.cache)(hm:m≤5000)(A:Option Addr)(c:Nat)(w:World)(hz:Gm (Value.int .u8) w [] A (Im.save d.last)):
 Calls prog 9 [.slice A (Im.save d.last).length c].toArray w fun e w'=>∃g,e= .returned (.tuple #[ptr g.p,.int .i64 0])∧Wi g m∧Heap w [] (Dz g (Nv.load d.cache m)) w':=by
 have hlen:=hD.len
 have hls:Im.load (Im.save d.last)=(d.last,0):=Im.akj (by rw[hl];omega) (by rw[hl];omega) (by rw[hl];exact hD.U)
 have hb:(Im.save d.last).length≤1000000:=by
  have h1:=Im.aeU d.last
  have h2:=Im.aaH d.last.length d.last (Bg _)
  have h3:d.last.length=8*m:=by rw[hl];exact hlen
  omega
 refine(auN A _ c (Im.save d.last) w hz O (By.PY _) hb).mono ?_
 rw[hls]
 rintro e w' (⟨h1,_⟩|⟨_,g,rfl,h2,h3⟩)
 ·exact absurd rfl h1
 ·have e8:d.cache.length/8=m:=Y
  simp only[hl,e8]at h2 h3
  exact⟨g,rfl,h2,h3⟩
theorem aaV(gr:NP)(id:Int)(w:World)(hg:LP w [] gr)(wid:(Lit.int .u64 id).wf=true):
 Calls prog 3 [.agg gr.cells.toArray,.int .u64 id].toArray w fun e w'=>e= .returned (.bool true)∧Below w.heap.size w w':=by
 have hid:Zj id:=bounds_u64 wid
 have H:=Heap.nil w
 have hFw:=fun{W:World} (h:LP W [] gr)=>avW gr W h
 cases hf:ahV gr with
 |false=>
  rw[hf]at hFw
  unfold NP.cells at*
  refine BM 123 func3 O (Aw (DU H O O fun p2 _ H=>BN O (Au (AP (Aw (BI H O (ah' _) (ca5 O) fun W1 H=>gK ?_))))))
  refine AP (Aw (Dn H 0 O O O MO Jg (BI H O (hFw (hg.later H.only J)) (ca6 O) fun W1 H=>AL (Jm O) (iD ?_))))
  exact⟨rfl,H.only.below⟩
 |true=>
  rw[hf]at hFw
  obtain⟨hn8,asZ,hr,hsz⟩:=of_decide_eq_true hf
  have hrl:=hg.rl
  have hnl:=hg.nl
  have aww:need (IZ (NT gr.ns)) (fun _=>0)≤34:=agj (by unfold NT;rw[Ci,hnl];exact asZ) (fun z hz=>by
   unfold NT at hz
   obtain⟨x,hx,rfl⟩:=BX.1 hz
   have:=hsz x hx
   omega) _
  have hNw:=fun(W:World)=>anx 40 id 3 Y hid Y W
  have hTo:=fun{g:Geo} {d:Nv.D} {h:Ko} {N:Nat} {W:World} (hF:abe d (64*40) 40 id h N) hG hE hgr=>ars (g:=g) (d:=d) (h:=h) (w:=W) hE hF hG gr hgr hr hn8 Y (fun x hx=>by have:=hsz x hx;omega) (by have:=hF.nn;omega) (hF.suff Y)
  unfold NP.cells at*
  refine BM 123 func3 O (Aw (DU H O O fun p2 _ H=>BN O (Au (AP (Aw (BI H O (ah' _) (ca5 O) fun W1 H=>gK ?_))))))
  refine AP (Aw (Dn H 0 O O O MO Jg (BI H O (hFw (hg.later H.only J)) (ca6 O) fun W1 H=>gK ?_)))
  refine Aw (Az O (rH ?_))
  rintro e W1 ⟨g1,d0,h0,N0,hg1,hF0,rfl,H'⟩
  refine⟨_,rfl,?_⟩
  have H:=H.more (A:=[grp _]) (Hw H');clear H';simp only[Bv]at H
  refine dU ?_
  refine oQ ?_
  refine AX 27 O (MQ O) (AX 27 O (Vh O O underlying29) (Dp O O (BL O (AX 31 O (MQ O) (AX 31 O (Je H 1 O O O MO Jg) (s_call (EP 31 Ak O) (hTo hF0 hg1 (H.Bl 0 O) (hg.anI H 0 O)) (ca8 O) ?_))))))
  rintro e W1 ⟨d1,s,rg,sL,hL,V,ws,hB,rfl,H'⟩
  refine⟨_,rfl,?_⟩
  have H:=H.DN 0 rfl H';clear H';simp only[Bv]at H
  refine AX 31 O (Dc O O Y) (fE ?_)
  refine AP ?_
  obtain⟨h1,hh1⟩:∃X,h0.cm s rg sL hL V=X:=⟨_,rfl⟩
  have hp1:h0.pH=h1.pH:=by rw[←hh1]
  have hVR:h1.V=h1.R:=by rw[←hh1]
  rw[hh1]at hB H
  rw[hp1]
  clear hh1 hp1
  have hD1:=hB.ok.dev.dv
  have hl1:=hB.last
  have hSv:=fun{W:World} hE=>auW g1 d1 (64*40) W hE hD1.I.ok (by rw[hl1];exact hD1.U) Y
  have hLd:=fun{A:Option Addr} {c:Nat} {W:World} hz=>aoZ hD1 hl1 Y A c W hz
  have hOp:=fun{g:Geo} {W:World} hE hG=>ana (g:=g) (d:=Nv.load d1.cache (64*40)) (m:=64*40) (n:=40) (k:=h1.k) (id:=id) (E:=h1.E) (hs:=h1.s.hs) (R:=h1.R) (w:=W) 3 Y hE hG hB.asC hB.good
  refine DR (BF O (BI H O ((amz (h:=h1) (H.Bl 0 O))) (axS O) fun W1 H=>s_call O (hSv (H.atM 0 O)) (awP O) ?_))
  rintro e W1 ⟨SA,sc,rfl,H'⟩
  refine⟨_,rfl,?_⟩
  have H:=H.more H';clear H';simp only[Bv]at H
  refine s_call O (hLd (H.KJ 0 O)) (ca9 O) ?_
  rintro e W1 ⟨g2,rfl,hg2,H'⟩
  refine⟨_,rfl,?_⟩
  have H:=H.more (A:=[grp _]) (Hw H');clear H';simp only[Bv]at H
  refine dU ?_
  refine oQ ?_
  refine AX 46 O (MQ O) (AX 46 O (Vh O O underlying36) (fE ?_))
  refine Aw (BF O (s_call O (hOp (H.Bl 0 O) hg2) (avn O) ?_))
  rintro e W1 ⟨d3,L,h3,N3,hop,hO3,k1,k2,k3,k4,k5,rfl,H'⟩
  refine⟨_,rfl,?_⟩
  have H:=H.DN 0 rfl H';clear H';simp only[Bv]at H
  refine dU ?_
  refine qw ?_
  refine AP ?_
  obtain⟨hE1,hRV⟩:True∧h3.V=h1.R:=⟨trivial,k4⟩
  have hW1:=hD1.U
  have hcl:d3.cache.length=d1.cache.length:=by rw[hO3.dev.dv.len,hD1.len]
  have hLw:∀a∈L,a∈ws:=fun a ha=>hop.live.le _ hB.good a ha
  have hu0:Gz h1.s.U 0=false:=hB.none
  have hu1:∀a∈L,Gz h1.s.U a=true:=fun a ha=>(hB.us a).2 (hLw a ha)
  have adS:∀a∈L,Ob.ptrs d3.cache a=Ob.ptrs d1.cache a∧O5 d3.cache a=O5 d1.cache a∧Rl d3.cache a=Rl d1.cache a:=fun a ha=>akp hW1 (hB.pos (hLw a ha)).1 hcl hop.o
  have hu3:∀a∈L,Gz h3.s.U a=true:=fun a ha=>by rw[hop.us];exact decide_eq_true ha
  have h0L:(0:Int)∉L:=fun h=>by have:=hu1 0 h;rw[hu0]at this;cases this
  have ays:Gz h3.s.U 0=false:=by rw[hop.us];exact decide_eq_false h0L
  have aa4:∀x∈gr.nodes,x.1.length≤20∧x.2.length≤100:=fun x hx=>by
   obtain⟨y,hy,rfl⟩:=BX.1 hx
   have h1:=(hg.ns.2 y hy).pl
   have h2:=(hg.ns.2 y hy).dl
   have h3:=hsz y hy
   show y.ps.length≤20∧y.ds.length≤100
   omega
  have hLt:Lit d3 h3.s.U:=⟨fun o ho=>by
   have h1:=ahO o ws ho.nd fun x hx=>hLw x (by have:=(ho.us x hx).2;rw[hop.us]at this;exact of_decide_eq_true this)
   have h2:=hB.len
   rw[NP.L6,hnl]at h2
   omega,fun a ha=>by
   rw[hop.us]at ha
   have haL:=of_decide_eq_true ha
   rw[(adS a haL).2.2]
   obtain⟨x,hx,e⟩:=hB.size (hLw a haL)
   have:=aa4 x hx
   omega⟩
  have hKx:∀{o1 rs1 ns1 o2 Xl XH},Rd d1.cache (Gz h1.s.U) h1.V o1 rs1 ns1→Rd d3.cache (Gz h3.s.U) h3.V o2 Xl XH→Xl=rs1∧XH=ns1:=fun{o1 rs1 ns1 o2 Xl XH} r1 r2=>by
   rw[hVR]at r1
   rw[hRV]at r2
   exact r1.turn r2 hop.live hu0 hu1 ays hu3 fun x hx=>⟨(adS x hx).1,(adS x hx).2.1⟩
  have auX:∀a∈L,Ob.pl 40 d3.cache (WJ h1.s.hs L) a=true:=fun a ha=>by
   have h1:=hO3.al.us a (hu3 a ha)
   rw[hop.sh,hO3.sn]at h1
   exact h1
  have hG3:Tr.Good (Ob.pl 40 d3.cache (WJ h1.s.hs L)) (Ob.ptrs d3.cache) h1.R (fun a=>a∈L):=⟨hop.live.ro,fun a ha=>⟨auX a ha,by rw[(adS a ha).1];exact hop.live.on a ha⟩⟩
  have hpl0:Ob.pl 40 d3.cache (WJ h1.s.hs L) 0=false:=by
   cases e:Ob.pl 40 d3.cache (WJ h1.s.hs L) 0 with
   |false=>rfl
   |true=>have:=Ob.L8 e;omega
  have hKs:∀{o1 rs1 ns1 o2 Xl XH},Rd d1.cache (Gz h1.s.U) h1.V o1 rs1 ns1→Rd d3.cache (Ob.pl 40 d3.cache (WJ h1.s.hs L)) h1.R o2 Xl XH→Xl=rs1∧XH=ns1:=fun{o1 rs1 ns1 o2 Xl XH} r1 r2=>by
   rw[hVR]at r1
   exact r1.turn r2 hop.live hu0 hu1 hpl0 auX fun x hx=>⟨(adS x hx).1,(adS x hx).2.1⟩
  have hc1:∀o,Oo (Gz h1.s.U) o→o.length≤1000:=fun o ho=>by
   have h1:=hB.few ho
   rw[NP.L6,hnl]at h1
   omega
  have hc3:∀o,Oo (Gz h3.s.U) o→o.length≤1000:=fun o ho=>by have:=hLt.c o ho;omega
  have hA1:=fun{W:World} ha hb=>aeF (ga:=g1) (da:=d1) (ha:=h1) (gb:=g2) (db:=d3) (hb:=h3) (w:=W) ha hB.ok Y hc1 hb hO3 Y hc3
  have hCp:=fun{W:World} hE=>asw (g:=g2) (d:=d3) (h:=h3) (w:=W) hE hO3 Y hLt id 3 hid Y
  have hRd:=fun{W:World} hE=>asg (g:=g2) (d:=d3) (w:=W) hE hop.dev Y hG3
  refine DR (Az O (AL (Dc O O Y) (BL O (AX 57 O (MQ O) (AX 57 O (Vh O O underlying29) (Dp O O (BL O (AX 61 O (MQ O) (AX 61 O (MQ O) (s_call (EP 61 Ak O) (hA1 (H.Bl 2 O) (H.Bl 0 O)) (arO O) ?_))))))))))
  rintro e W1 ⟨⟨r,o1,o3,rs1,ns1,rs3,ns3,rfl,hr1,hr3,hT⟩,H'⟩
  refine⟨_,rfl,?_⟩
  obtain rfl:r=true:=hT (hKx hr1 hr3).1.symm (hKx hr1 hr3).2.symm;have H:=H.same H';clear H'
  refine AX 61 O (EM O) (fE ?_)
  refine jl ?_
  refine s_call O (hCp (H.Bl 0 O)) (awK O) ?_
  rintro e W1 ⟨g4,d4,h4,N4,n4,ws4,o4,rs4,ns4,hn4,hr4,hB4,hl4,rfl,H'⟩
  refine⟨_,rfl,?_⟩
  have H:=H.more (A:=[grp _]) (Hw H');clear H';simp only[Bv]at H
  refine dU ?_
  refine nV ?_
  refine s_call O (hRd (H.atM 1 O)) (ax1 O) ?_
  rintro e W1 ⟨⟨gs,o5,rfl,aya,hr5,ayL,ayK⟩,H'⟩
  refine⟨_,rfl,?_⟩
  have HP:=H.same H';clear H H';have H:=Heap.nil W1
  refine xI ?_
  refine AL (CG (v:= .agg _) O O) (DK O O (Ea H O O6 fun p10 _ H=>Ea H O aqn fun p11 _ H=>Eh H 1 O O O O O O O Jg ?_))
  clear H;refine ayJ fun _ H=>?_
  refine Eh H 0 O O O O O O O aaG ?_
  clear H;refine ayJ fun _ H=>?_
  refine qw ?_
  refine AP ?_
  have hgs:=aya [] J
  obtain⟨e41,e42⟩:=hKx hr1 hr4
  obtain⟨e51,e52⟩:=hKs hr1 hr5
  have h4l:ns4.length=o4.length:=by rw[hr4.ns,Ci]
  have hS4:=hB4.shows (by rw[h4l];exact hr4.self) hr4.rt (by rw[hr4.rs,Ci,Ci];exact hO3.V8.1)
  have hc4:∀o,Oo (Gz h4.s.U) o→o.length≤1000:=fun o ho=>by have:=hB4.few ho;omega
  have hA4:=fun{W:World} ha hb=>aeF (ga:=g4) (da:=d4) (ha:=h4) (gb:=g1) (db:=d1) (hb:=h1) (w:=W) ha hB4.ok Y hc4 hb hB.ok Y hc1
  have hK4:∀{o rs ns o2 Xl XH},Rd d4.cache (Gz h4.s.U) h4.V o rs ns→Rd d1.cache (Gz h1.s.U) h1.V o2 Xl XH→rs=Xl∧ns=XH:=fun{o rs ns o2 Xl XH} r1 r2=>by
   obtain⟨a1,a2⟩:=hS4.read r1
   obtain⟨b1,b2⟩:=hr1.uniq r2
   exact⟨by rw[a1,e41,b1],by rw[a2,e42,b2]⟩
  obtain⟨e31,e32⟩:=hKx hr1 hr3
  have agE:Rd d3.cache (Gz h3.s.U) h3.V o3 gs.rs gs.nodes:=by rw[e51,e52,←e31,←e32];exact hr3
  have hm5:gs.m=o3.length:=by rw[←hgs.nl,←NP.L6,agE.ns,Ci]
  obtain⟨hR5,hs5,_⟩:=agE.right hO3.dev.dv.U hgs
  obtain⟨ayt,axZ,avD⟩:=hLt.fits hO3.dev.dv.U hgs agE hm5
  have ayB:=avD (fun _=>0)
  have hT5:=fun{g:Geo} {d:Nv.D} {h:Ko} {N:Nat} {W:World} (hF:abe d (64*40) 40 id h N) hG hE hgr=>ars (g:=g) (d:=d) (h:=h) (w:=W) hE hF hG gs hgr hR5 Y Y (fun x hx=>by have:=axZ x hx;omega) (by have:=hF.nn;omega) (hF.suff Y)
  have hA7:=fun{g:Geo} {d:Nv.D} {h:Ko} {N:Nat} {ws:List Int} {W:World} (hB7:Built d (64*40) 40 id h N ws gs.rs gs.nodes) ha hb=>aeF (ga:=g) (da:=d) (ha:=h) (gb:=g1) (db:=d1) (hb:=h1) (w:=W) ha hB7.ok Y (fun o ho=>by have h1:=hB7.few ho;rw[NP.L6,hgs.nl]at h1;omega) hb hB.ok Y hc1
  have hK7:∀{d:Nv.D} {h:Ko} {N:Nat} {ws o rs:List Int} {ns:Gr.Nodes} {o2 Xl XH},Built d (64*40) 40 id h N ws gs.rs gs.nodes→Rd d.cache (Gz h.s.U) h.V o rs ns→Rd d1.cache (Gz h1.s.U) h1.V o2 Xl XH→rs=Xl∧ns=XH:=fun{d h N ws o rs ns o2 Xl XH} hB r1 r2=>by
   have h5l:gs.nodes.length=o3.length:=by rw[agE.ns,Ci]
   have hS:=hB.shows (by rw[h5l];exact agE.self) agE.rt (by rw[agE.rs,Ci,Ci];exact hO3.V8.1)
   obtain⟨a1,a2⟩:=hS.read r1
   obtain⟨b1,b2⟩:=hr1.uniq r2
   exact⟨by rw[a1,e51,b1],by rw[a2,e52,b2]⟩
  unfold NP.cells at hT5
  refine DR (Az O (AL (Dc O O Y) (BL O (AX 81 O (Fz O) (AX 81 O (Dc O O Y) (Dp O O (BL O (AX 85 O (MQ O) (AX 85 O (Vh O O underlying29) (Dp O O (BL O (AX 89 O (Je H 0 O O O ahJ aaG) (s_call (EP 89 Ak O) (aox _) (axt O) ?_)))))))))))))
  rintro e W1 ⟨rfl,H'⟩
  refine⟨_,rfl,?_⟩
  have H:=H.same H';clear H'
  refine AX 89 O (EM O) (Dp O O (BL O (AX 94 O (MQ O) (AX 94 O (MQ O) (s_call (EP 94 Ak O) (hA4 ((HP.same H.only).Bl 0 O) ((HP.same H.only).Bl 3 O)) (arO O) ?_)))))
  rintro e W1 ⟨⟨r,p1,p2,q1,q2,q3,q4,rfl,hs1,hs2,hT⟩,H'⟩
  refine⟨_,rfl,?_⟩
  obtain rfl:r=true:=hT (hK4 hs1 hs2).1 (hK4 hs1 hs2).2;have H:=H.same H';clear H'
  refine AX 94 O (EM O) (fE ?_)
  refine Aw (Az O (rH ?_))
  rintro e W1 ⟨g6,d6,h6,N6,hg6,hF6,rfl,H'⟩
  refine⟨_,rfl,?_⟩
  have H:=H.more (A:=[grp _]) (Hw H');clear H';simp only[Bv]at H
  refine dU ?_
  refine oG ?_
  refine AL (Fv O O Y) (BL O (AX 108 O (MQ O) (AX 108 O (ada O O underlying29) (ED O O (BL O (AX 112 O (MQ O) (AX 112 O (Je H 2 O O O MO Jg) (s_call (EP 112 Ak O) (hT5 hF6 hg6 (H.Bl 0 O) (hgs.anI H 0 O)) (ca8 O) ?_))))))))
  rintro e W1 ⟨d7,s7,rg7,sL7,hL7,V7,ws7,hB7,rfl,H'⟩
  refine⟨_,rfl,?_⟩
  have H:=H.DN 0 rfl H';clear H';simp only[Bv]at H
  refine AX 112 O (Fv O O Y) (ED O O (BL O (AX 118 O (MQ O) (AX 118 O (MQ O) (s_call (EP 118 Ak O) ((hA7 (g:=g6) hB7 (H.Bl 0 O) ((HP.same H.only).Bl 3 O))) (arO O) ?_)))))
  rintro e W1 ⟨⟨r7,u1,u2,t1,t2,t3,t4,rfl,awm,avQ,hT7⟩,H'⟩
  refine⟨_,rfl,?_⟩
  obtain rfl:r7=true:=hT7 (hK7 hB7 awm avQ).1 (hK7 hB7 awm avQ).2;have H:=H.same H';clear H'
  refine oJ ?_
  exact⟨rfl,(HP.only.trans H.only).below⟩
end
end
section
namespace lTopImages
open Go.ChangeShapes Go.WideShapes Go.ChangeAt Go.RowKit
theorem own:ownKnob prog.godebug=none:=by kernel_rfl
theorem laidOut:laidOutB prog=true:=by kernel_rfl
theorem lifted(os:Os)(started:os.Started)(H:Type)(enc:TypeId×Value→H):
 ReturnsInHanded {} Tryz.checked os 3 .any (Rows.topImagesSpec.pre6 enc prog Tryz.f3 Rows.topImagesRow.domain false) (Rows.topImagesSpec.post enc prog Tryz.f3 false true false false):=by
 refine returnsInHanded_of_change (C:=Tryz.checked) own started Ak func3
  (ChangeSpec.witness6 (enc:=enc) (C:=Tryz.checked) false ⟨#[],#[.agg #[.slice none 0 0,.slice none 0 0],.int .u64 0],[]⟩ 8 Ak Ak Ak Ak) ?_
 intro W base args ds gs before hval0 hW hcnd _
 have hval:∀(j:Nat) t v,Tryz.f3.params[j]? =some t→args[j]? =some v→Value.okWide prog W .any base t v:=hval0
 have hW':=hW
 obtain⟨p,q,hA0,hV,rfl,hfz,hnd⟩:=hW
 have hA:DataW.TrodAll enc prog W 0 (fun _=>true) true Tryz.f3.params.toList args.toList ds p:=hA0
 rw[Tryz.params3]at hA hval
 obtain⟨v0,vs0,d0,ds0,p0,q0,hargs,rfl,rfl,h0,r0⟩:=trodAll_cons hA
 obtain⟨v1,vs1,d1,ds1,p1,q1,rfl,rfl,rfl,h1,r1⟩:=trodAll_cons r0
 obtain⟨rfl,rfl,rfl⟩:=trodAll_nil r1
 obtain rfl:args= #[v0,v1]:=by cases args;simp_all
 obtain⟨rfl,rfl⟩:=trodVars_none hV
 have k0:=h0
 have lt0:∀x∈p0,x.block<W.heap.size:=by obtain⟨m,hm⟩:=k0;exact DataW.trod_lt m _ _ _ hm
 have k1:=h1
 have lt1:∀x∈p1,x.block<W.heap.size:=by obtain⟨m,hm⟩:=k1;exact DataW.trod_lt m _ _ _ hm
 obtain⟨x0,rfl,w0⟩:=ahR W base v0 d0 p0 (hval 0 25 v0 rfl rfl) h0
 obtain⟨a1,rfl,rfl,rfl,w1⟩:=open_int underlying26 (hval 1 26 v1 rfl rfl) h1
 clear hA0 hval0
 refine(aaV x0 a1 W w0 w1).mono fun e W' ⟨he,bel⟩=>?_
 subst he
 exact⟨_,rfl,_,_,_,[],_,[],hW',trodAll_mk1 (shut_bool underlying4 _),(trodAll_cons_mk (Below.trod laidOut Ak (of_decide_eq_true Ak) k0 bel lt0) (trodAll_cons_mk (Below.trod laidOut Ak (of_decide_eq_true Ak) k1 bel lt1) trodAll_mk0)),rfl,bel.frame _,fun h=>by cases h⟩
theorem shut1:(Rows.topImagesRow.unfollowed==Tryz.prog.unfollowed 3)=true:=by kernel_rfl
theorem shut2:(Rows.topImagesRow.recurses==Tryz.prog.recurses 3)=true:=by kernel_rfl
theorem shut3:(Rows.topImagesRow.inPlace==Tryz.prog.inPlace 3)=true:=by kernel_rfl
theorem shut4:(Rows.topImagesRow.named==Tryz.prog.varsNamed 3)=true:=by kernel_rfl
theorem shut5:Tryz.prog.mayEnter=true:=by kernel_rfl
theorem shut6:mapsRowed Tryz.prog=true:=by kernel_rfl
theorem shut:joinedFacts Tryz.prog 3 Tryz.f3 Rows.topImagesSpec Rows.topImagesRow=true:=by
 unfold joinedFacts
 rw [laidOut,shut1,shut2,shut3,shut4,shut5,shut6]
 kernel_rfl
theorem over:Rows.topImagesRow.holds Tryz.pinned (OpenSpec.ofChange Rows.topImagesSpec):=
 OpenClaim.holds_of_wide 3 Tryz.f3 rfl rfl rfl rfl rfl rfl rfl ⟨rfl,rfl,rfl,rfl,rfl⟩ rfl rfl rfl rfl rfl Ak func3 shut
  (of_decide_eq_true Ak) (by unfold Func.isWrapper;first|(rw[if_pos (by decide+kernel)];kernel_rfl)|(rw[if_neg (by decide+kernel)];exact⟨rfl,rfl⟩))
  (fun os started H enc _=>lifted os started H enc)
theorem proved:Rows.TopImagesSaid:=over
#print axioms proved
end lTopImages
end
end Go.Proofs.YtppilhpcmkekbaaGreat
