/- Parts of the proof. -/
import Derived.Test.YtppilhpcmkekbaaGreatKTopImagess
set_option linter.unusedSimpArgs false
set_option linter.unusedVariables false
set_option linter.unusedSectionVars false
set_option maxRecDepth 100000
set_option maxHeartbeats 16000000
namespace Go.Proofs.YtppilhpcmkekbaaGreat
open Go.Proofs.Tryz
section
section
open Go.RowKit
theorem aj8(g:Geo)(d:Nv.D)(n:Nat)(hs:List Ob.H3)(w:World)(hE:DW (Dz g d) w)(hw:Ob.SQ d.cache)(hk:aci d.cache hs)(hl:hs.length=n)(hn:1≤n∧n≤1000):
 Calls prog 61 [ptr g.p,.agg [.int .i64 n].toArray].toArray w fun e w'=>∃p rs,e= .returned (.tuple #[.slice (some ⟨p,0,none⟩) n n,.int .i64 0])∧Heap w [] [hrow p hs rs] w':=by
 have HR:=Heap.start hE
 have H:=Heap.nil w
 have WM:=fun{W:World} (hO:Only [] w W)=>((Heap.start hE).same hO).ents
 refine BM 40 func61 O (Aw (DU H O O fun p3 _ H=>En O (nG ?_)))
 refine BR O Ou (mQ ?_)
 refine rF ?_
 intro p _ H';clear H;have H:=H';clear H'
 refine En O (Au (Aw (qw ?_)))
 refine Aw (AQ O (Au (E8 ?_)))
 obtain⟨rs,H⟩:=H.adW (by rw[CV];omega)
 rw[←aaF]at H
 replace H:Heap w [] [hrow p (List.replicate n (0,0,0)) rs,_] _:=H
 have e1:hs.take 1++List.replicate (n-1) (0,0,0)=List.replicate n (0,0,0):=by
  have h1:hs.take 1=[(0,0,0)]:=by rw[←Jc hk.h0];rfl
  rw[h1,show n=(n-1)+1 by omega,Fa];rfl
 rw[←e1]at H
 refine Ec (fun z f W=>∃(i:Nat),1≤i∧i≤n∧z=n-i∧f 0=ptr g.p∧f 3= .pointer (some ⟨p3,0,none⟩)∧f 6= .slice (some ⟨p,0,none⟩) n n∧f 7= .int .i64 0∧f 8= .int .i64 i∧Heap w [] [hrow p (hs.take i++List.replicate (n-i) (0,0,0)) rs,blk p3 [.int .i64 n] 79] W) (n-1) ⟨1,Y,Y,rfl,rfl,rfl,rfl,rfl,rfl,H⟩ ?_
 clear H
 rintro z f W ⟨i,hi1,hi,rfl,f0,f3,f6,f7,f8,H⟩
 obtain⟨f,rfl⟩:=Lr f0 f3 f6 f7 f8
 clear f0 f3 f6 f7 f8
 by_cases hin:i<n
 ·obtain⟨h,hh⟩:∃h,hs[i]? =some h:=⟨_,Ar Y⟩
  obtain⟨hr,he⟩:=hk.at_ i h hi1 hh
  have hgb:=Ob.QG hw (256+(i:Int))
  have hG:=fun{W:World} (hO:Only [] w W)=>ZQ g d (256+(i:Int)) W (WM hO)
  have hD:=fun(W:World)=>aqH i (Nv.get d.cache (256+(i:Int))) W Y hgb
  obtain⟨d1,d2,d3,d4⟩:=Bh.Qx h.1 h.2.1 h.2.2 (256+(i:Int)) hr
  rw[he,d1,d2,d3,d4]at hD
  rw[he]at hG
  have hlen:i<(hs.take i++List.replicate (n-i) (0,0,0)).length:=by rw[Cm,Dy,CV];omega
  refine wZ ?_
  refine eX ?_
  refine Aw (Az O (BF O (oN ?_)))
  refine BI H O (Us n i _ Y Y) (MB O) fun W1 H=>BI H O (hG H.only) (RZ O) fun W1 H=>BI H O (hD _) (aqz O) fun W1 H=>aO ?_
  refine Ea H O J9 fun p9 _ H=>tN ?_
  clear H;refine ayJ fun _ H=>?_
  refine rD ?_
  clear H;refine ayJ fun _ H=>?_
  refine AA (jy ?_)
  rw[afV hl hh]at H
  exact⟨_,_,Y,rfl,i+1,Y,Y,rfl,rfl,rfl,rfl,rfl,rfl,H.drop⟩
 ·obtain rfl:i=n:=Y
  rw[Ez Y,GX,NI,Du]at H
  refine wZ ?_
  refine kH ?_
  refine Aw (CY O (Az O (xO ?_)))
  exact⟨p,rs,rfl,H.drops (A:=[_])⟩
def rdC(gp n ph bm:Nat)(OA:Option Addr)(len oc:Nat)(b:Bool):List Value:=[ptr gp,.int .i64 n,.slice (some ⟨ph,0,none⟩) n n,.map (some bm),.slice OA len oc,.bool b,.int .i64 0,.int .i64 0]
def Uf(p gp n ph bm:Nat)(l:List (Int×Int))(OA:Option Addr)(oc:Nat)(out:List Int)(b:Bool):List Fp:=
 [blk p (rdC gp n ph bm OA out.length oc b) 130,mp kT (Value.int .i64) bm l,Dw 1 (.slice OA out.length oc) out.length (out.map (Value.int .i64)) 3]
section
variable{g:Geo}{d:Nv.D}{n p ph bm oc:Nat}{hs:List Ob.H3}{l:List (Int×Int)}{OA:Option Addr}{out:List Int}{b:Bool}{w:World}
theorem al1(hD:DW (Dz g d) w)(hW:Ob.SQ d.cache)(hcl:d.cache.length≤1000000000)(hS:JQ w [] (some ⟨ph,0,none⟩) hs)(hl:hs.length=n)(hn:1≤n∧n≤1000)(hB:Zd hs)(hE:DW (Uf p g.p n ph bm l OA oc out b) w)(ho:Oo (Ob.pl n d.cache hs) out)(hnm:Tz l out)(hlen:out.length≤1000000)(c:Int)(hc:c=0∨Ob.pl n d.cache hs c=true):
 Calls prog 64 [ptr p,.int .i64 c].toArray w fun e w'=>∃l' OW oc',Tz l' (Gr.come out (NM (Ob.pl n d.cache hs) c))∧e= .returned (.int .i64 (Gr.J3 (Gr.come out (NM (Ob.pl n d.cache hs) c)) (NM (Ob.pl n d.cache hs) c)))∧Heap w (ids (Uf p g.p n ph bm l OA oc out b)) (Uf p g.p n ph bm l' OW oc' (Gr.come out (NM (Ob.pl n d.cache hs) c)) b) w':=by
 have HD:=Heap.start hD
 have H:=Heap.start hE
 have WM:=fun{W:World} (hO:Only [] w W)=>((Heap.start hD).same hO).ents
 obtain⟨u,hu⟩:∃u,Ob.pl n d.cache hs=u:=⟨_,rfl⟩
 have hpy:=fun a (h:Ob.pl n d.cache hs a=true)=>Ob.L8 h
 rw[hu]at ho hc hpy⊢
 have hu0:u 0=false:=by
  cases h:u 0 with
  |false=>rfl
  |true=>have:=hpy 0 h;omega
 generalize ids (Uf p g.p n ph bm l OA oc out b)=I at*
 unfold Uf rdC at H⊢
 by_cases h0:c=0
 ·subst h0
  have e1:NM u 0= -1:=by unfold NM;rw[hu0];rfl
  have e2:Gr.come out (-1)=out:=by unfold Gr.come;rw[if_pos (.inl Y)]
  have e3:Gr.J3 out (-1)= -1:=adC ho Y
  rw[e1,e2,e3]
  refine BM 73 func64 O (Aw (jk ?_))
  refine AL (Fv O O Y) (fV ?_)
  exact⟨l,OA,oc,hnm,rfl,H⟩
 ·have huc:=hc.resolve_left h0
  obtain⟨c1,c2,c3⟩:=hpy c huc
  have e1:NM u c=c:=by unfold NM;rw[huc];rfl
  rw[e1]
  have hg:=hnm c
  have hgd:kT.Gd c:=gdT Y
  by_cases hm:c∈out
  ·have e2:Gr.come out c=out:=by unfold Gr.come;rw[if_pos (.inr hm)]
   rw[e2]
   rw[if_pos hm]at hg
   generalize Gr.J3 out c=v at*
   refine BM 73 func64 O (Aw (jk ?_))
   refine mD ?_
   refine AP (eY ?_)
   refine BR O aee (xY ?_)
   refine AL (aiT H 1 O O O (hgd) (hg) underlying127 (JL GI) O) (aX ?_)
   refine Au (Aw (BL O (uU ?_)))
   exact⟨l,OA,oc,hnm,rfl,H⟩
  ·have e2:Gr.come out c=out++ [c]:=by unfold Gr.come;rw[if_neg];rintro(h|h);omega;exact hm h
   have hd:(out++ [c]).Nodup:=by
    refine CS.2 ⟨ho.nd,J,fun a ha b hb e3=>?_⟩
    rw[Bf.1 hb]at e3
    exact hm (e3▸ha)
   have e3:Gr.J3 (out++ [c]) c=out.length:=by
    have:=Gr.SG (out++ [c]) out.length J hd
    rw[NH (Bg _)]at this
    simpa using this
   rw[e2,e3]
   rw[if_neg hm]at hg
   have hn2:=hnm.new hd
   have hPl:=fun{W:World} (hO:Only [] w W)=>abA (WM hO) hW hcl (some ⟨ph,0,none⟩) n n hs (hS.later hO J) hl Y (aei hB) n Y c Y
   have hu2:Ob.pl n d.cache hs c=true:=by rw[hu];exact huc
   rw[hu2]at hPl
   have HR:=H
   clear H
   have H:=(Heap.nil w).G6 1 3
   refine BM 73 func64 O (Aw (jk ?_))
   refine mD ?_
   refine AP (eY ?_)
   refine BR O aee (BD (HR.same H.only) 0 O O O KW (Az O (AL (ail (HR.same H.only) 1 O O O (hgd) (hg) underlying127 (JL GI)) (aX ?_))))
   refine Au (Aw (BL O (dX ?_)))
   refine AP (AP ?_)
   refine Jj (fun f W=>f 0=ptr p∧f 1= .int .i64 c∧f 8= .bool true∧Only [] w W) ?_ ?_
   ·refine acA (A:=[_]) mixed H [0] O ?_;replace H:=H.drew
    refine uO ?_
    refine Dj 1 O O O (fun _ hS=>ES O) (H.Ew [0] O O) (Dj 2 O O O (fun _ hS=>CB O aad) (H.Ew [0] O O) (Dj 3 O O O (fun _ hS=>Ef (HR.same hS.only) 0 O O O Kt) (H.Ew [0] O O) (Dj 4 O O O (fun _ hS=>BP (v:= .pointer _) O) (H.Ew [0] O O) (Dj 5 O O O (fun _ hS=>ES O) (H.Ew [0] O O) (Dj 6 O O O (fun _ hS=>CB O apc) (H.Ew [0] O O) (Dj 7 O O O (fun _ hS=>JU (HR.same hS.only) 0 (vs:=[.int .i64 n]) O O O O H6 G5) (H.Ew [0] O O) (Dj 8 O O O (fun _ hS=>BP (v:= .pointer _) O) (H.Ew [0] O O) (Dj 9 O O O (fun _ hS=>ES O) (H.Ew [0] O O) (Dj 10 O O O (fun _ hS=>CB O aiS) (H.Ew [0] O O) (Dj 11 O O O (fun _ hS=>Ef (HR.same hS.only) 0 O O O Vo) (H.Ew [0] O O) (Dj 12 O O O (fun _ hS=>BP (v:= .int _ _) O) (H.Ew [0] O O) ?_)))))))))))
    refine D6 13 17 ?_ ?_
    ·refine BO O (s_call O (hPl H.only) (afo O) ?_)
     rintro e W1 ⟨⟨P,D,rfl,Vd⟩,H'⟩
     refine⟨_,rfl,?_⟩
     have H:=H.same H';clear H'
     refine AA (Bc (H.Ew [0] O O) (Dj 14 O O O (fun _ hS=>BP (v:= .tuple _) O) (H.Ew [0] O O) (Dj 15 O O O (fun _ hS=>CG (v:= .agg _) O O) (H.Ew [0] O O) (Dj 16 O O O (fun _ hS=>CG (v:= .bool _) O O) (H.Ew [0] O O) (Bd 17 O (Ea H O FK fun p7 _ H=>qF ?_))))))
     refine Bd 18 O (Ov H 0 O O O O O O O DF ?_)
     clear H;refine ayJ fun _ H=>?_
     refine qF ?_
     refine Dj 19 O O O (fun _ hS=>DJ (v:= .bool _) O) (H.Ew [1] O O) (CJ (Dt ?_))
     exact⟨rfl,rfl,rfl,H.only⟩
    ·refine BO O (Ea H O FK fun p7 _ H=>qF ?_)
     refine Bd 13 O (s_call O (hPl H.only) (afo O) ?_)
     rintro e W1 ⟨⟨P,D,rfl,Vd⟩,H'⟩
     refine⟨_,rfl,?_⟩
     have H:=H.same H';clear H'
     refine jX ?_
     refine Bd 18 O (Ov H 0 O O O O O O O DF ?_)
     clear H;refine ayJ fun _ H=>?_
     refine qF ?_
     refine Dj 19 O O O (fun _ hS=>DJ (v:= .bool _) O) (H.Ew [1] O O) (CJ (Dt ?_))
     exact⟨rfl,rfl,rfl,H.only⟩
   clear H
   rintro f W ⟨f0,f1,f8,hO⟩
   obtain⟨f,rfl⟩:=OE f0 f1 f8
   clear f0 f1 f8
   have H:=HR.same hO
   refine AO (Aw (BL O (gK ?_)))
   refine eY ?_
   refine BR O V4 (iQ ?_)
   refine AQ O (uX ?_)
   refine BR O aee (xY ?_)
   refine Az O (U6 H 1 O O O O O (hgd) underlying127 ?_)
   clear H;refine ayJ fun _ H=>?_
   refine Au (Aw (BF O (BF O (Dl O (BR O V4 (BD H 0 O O O Fg (Az O (O7 (enc:=(Value.int .i64)) H 2 O O O O O O O Y underlying22 GI O ?_))))))))
   clear H;intro _ An cn _ H;simp only[Bv,Nat.reduceAdd]at H
   refine Dl O (BR O V4 (wB ?_))
   clear H;refine ayJ fun _ H=>?_
   refine Au (Aw (Az O (fH ?_)))
   rw[show out.length+1=(out++ [c]).length by simp]at H
   exact⟨_,_,_,hn2,rfl,H⟩
end
end
end
section
section
open Go.RowKit
section
variable{g:Geo}{d:Nv.D}{n p ph bm oc:Nat}{hs:List Ob.H3}{l:List (Int×Int)}{OA:Option Addr}{out:List Int}{b:Bool}{w:World}
theorem asz(hE:DW [grp (Dz g d),grp (Uf p g.p n ph bm l OA oc out b)] w)(hW:Ob.SQ d.cache)(hcl:d.cache.length≤1000000000)(hS:JQ w (ids (Uf p g.p n ph bm l OA oc out b)) (some ⟨ph,0,none⟩) hs)(hl:hs.length=n)(hn:1≤n∧n≤1000)(hB:Zd hs)(hol:∀o,Oo (Ob.pl n d.cache hs) o→o.length≤100000)(ho:Oo (Ob.pl n d.cache hs) out)(hnm:Tz l out)(y:Int)(hy:Ob.pl n d.cache hs y=true)(hyp:∀z∈Ob.ptrs d.cache y,z=0∨Ob.pl n d.cache hs z=true):
 Calls prog 65 [ptr p,.int .i64 y].toArray w fun e w'=>∃l' OW oc' out' PA cP DB dD np nq,out'=(oPt d.cache (Ob.pl n d.cache hs) y).foldl Gr.come out∧Tz l' out'∧Oo (Ob.pl n d.cache hs) out'∧(∃mo,out'=out++mo)∧Kn out' (oPt d.cache (Ob.pl n d.cache hs) y)∧np≤63∧nq≤16384∧e= .returned (.agg [.slice PA np cP,.slice DB nq dD].toArray)∧
  Heap w (ids (Uf p g.p n ph bm l OA oc out b)) [grp [Dw 1 (.slice PA np cP) np (((oPt d.cache (Ob.pl n d.cache hs) y).map (Gr.J3 out')).map (Value.int .i64)) 3,Dw 1 (.slice DB nq dD) nq ((O5 d.cache y).map (Value.int .u64)) 26],grp (Uf p g.p n ph bm l' OW oc' out' b)] w':=by
 have H:=Hw (Heap.start hE.snd)
 have hOf:=fun{W:World} (hO:Only (ids (Uf p g.p n ph bm l OA oc out b)) w W)=>hE.off hO
 have hSe:=fun{W:World} (hO:Only (ids (Uf p g.p n ph bm l OA oc out b)) w W)=>(hS.later hO (fun _ h=>h)).mono (G:=[]) J
 obtain⟨hy0,hy1,hyh⟩:=Ob.L8 hy
 have hpb:=Ob.NG hW y
 have hu0:∀y,Ob.pl n d.cache hs y=true→0≤y:=fun y hy=>by have:=Ob.L8 hy;omega
 have hCm:=fun{W:World} {p:Nat} {l:List (Int×Int)} {OA:Option Addr} {oc:Nat} {out:List Int} hD hS hE ho hn c hc=>al1 (g:=g) (d:=d) (n:=n) (p:=p) (ph:=ph) (bm:=bm) (oc:=oc) (hs:=hs) (l:=l) (OA:=OA) (out:=out) (b:=b) (w:=W) hD hW hcl hS hl Y hB hE ho hn (by have:=hol _ ho;omega) c hc
 have hHd:=fun{W:World} hE=>YE (g:=g) (d:=d) (w:=W) hE hW hcl y ⟨Y,Y⟩
 rw[show Ob.he d.cache y=0 by unfold Ob.he;rw[if_pos hyh]]at hHd
 obtain⟨u,hu⟩:∃u,Ob.pl n d.cache hs=u:=⟨_,rfl⟩
 rw[hu]at hol ho hyp hu0 hCm⊢
 obtain⟨pt,hpt⟩:∃pt,oPt d.cache u y=pt:=⟨_,rfl⟩
 have aje:pt=(Ob.ptrs d.cache y).map (NM u):=hpt.symm
 rw[hpt]
 generalize ids (Uf p g.p n ph bm l OA oc out b)=I at*
 obtain⟨np,hnp⟩:=Bo hpb.1
 obtain⟨nq,hnq⟩:=Bo hpb.2.2.1
 have hpr:∀k:Nat,k<np→(Ob.ptrs d.cache y)[k]? =some (Ob.pAt d.cache (y+(1+(k:Int)))):=fun k hk=>aja hpb.1 Y
 have hdr:∀j:Nat,j<nq→(O5 d.cache y)[j]? =some (Nv.get d.cache (y+(1+Ob.hp d.cache y+(j:Int)))):=fun j hj=>amC hpb.2.2.1 Y
 have hpl:(Ob.ptrs d.cache y).length=np:=by unfold Ob.ptrs;rw[Ob.Oe,hnp];rfl
 have asA:pt.length=np:=by rw[aje,Ci,hpl]
 have hdl:(O5 d.cache y).length=nq:=by rw[Z7,hnq];rfl
 have asa:=Ob.aaj hW y
 rw[hnp,hnq]at hHd
 refine BM 70 func65 O (Aw (Ea H O LV fun p4 _ H=>Au (Aw (Ea H O LV fun p5 _ H=>uX ?_))))
 refine BR O aad (BD (Heap.start (H.Bl 2 O)) 0 O O O Kt (Az O (BI H O (hHd (hOf H.only)) (UK O) fun W1 H=>aO ?_)))
 refine Ea H O FK fun p6 _ H=>gX ?_
 clear H;refine ayJ fun _ H=>?_
 refine qw ?_
 refine Aw (BR O ad7 (mQ ?_))
 refine tV ?_
 replace H:=(H.G6 1 3).order [2,0,1,4,3] rfl rfl
 have hmz:out=(pt.take 0).foldl Gr.come out:=rfl
 have al0:Kn out (pt.take 0):=fun z hz=>by simp at hz
 have hex:∃mo:List Int,out=out++mo:=⟨[],J⟩
 refine Ec (fun z f W=>∃(k:Nat) (PA:Option Addr) (cP:Nat) (l:List (Int×Int)) (OA:Option Addr) (oc:Nat) (out':List Int),k≤np∧z=np-k∧Tz l out'∧Oo u out'∧(∃mo,out'=out++mo)∧Kn out' (pt.take k)∧out'=(pt.take k).foldl Gr.come out∧f 0=ptr p∧f 1= .int .i64 y∧f 4=ptr p4∧f 5=ptr p5∧f 6=ptr p6∧f 24= .int .i64 np∧f 25= .int .i64 k∧
  Heap w I [blk p5 [.slice PA k cP,.slice none 0 0] 77,Dw 1 (.slice PA k cP) k (((pt.take k).map (Gr.J3 out')).map (Value.int .i64)) 3,blk p6 [.int .i64 np,.int .i64 nq] 205,grp (Uf p g.p n ph bm l OA oc out' b),blk p4 [.slice none 0 0,.slice none 0 0] 77] W) np ⟨0,none,0,l,OA,oc,out,Y,rfl,hnm,ho,hex,al0,hmz,rfl,rfl,rfl,rfl,rfl,rfl,rfl,H⟩ ?_
 clear H hmz al0 hex
 rintro z f W ⟨k,PA,cP,l,OA,oc,out',hk,rfl,Qi,Rq,hex,hkn',Me,f0,f1,f4,f5,f6,f24,f25,H⟩
 have avf:=hol _ Rq
 by_cases hlk:k<np
 ·have hq:=hpr k hlk
  have hqm:=A8 hq
  have hqb:=asa _ hqm
  have hqu:=hyp _ hqm
  have hPt:=fun{W:World} hE=>ai3 (g:=g) (d:=d) (w:=W) hE hW Y y k hyh ⟨Y,Y⟩
  obtain⟨qv,hqv⟩:∃qv,Ob.pAt d.cache (y+(1+(k:Int)))=qv:=⟨_,rfl⟩
  rw[hqv]at hq hqb hPt hqu
  obtain⟨mo,hmo,Xr,hkn2,hmap⟩:=Wn hu0 Rq hkn' qv
  have hts:pt.take k++ [NM u qv]=pt.take (k+1):=Jc (by rw[aje,BG,hq];rfl)
  rw[hts]at hkn2 hmap
  have hC:=fun{W:World} hD hS hE=>hCm (W:=W) (p:=p) (l:=l) (OA:=OA) (oc:=oc) hD hS hE Rq Qi qv hqu
  rw[hmo]at hC
  have hout2:out'++mo=(pt.take (k+1)).foldl Gr.come out:=by rw[←hts,Jq,←Me,←hmo];rfl
  have ahd:∃m2,out'++mo=out++m2:=by obtain⟨m1,rfl⟩:=hex;exact⟨m1++mo,by rw[DI]⟩
  generalize Gr.J3 (out'++mo) (NM u qv)=v at*
  obtain⟨f,rfl⟩:=lv7 f0 f1 f4 f5 f6 f24 f25
  clear f0 f1 f4 f5 f6 f24 f25
  refine lW ?_
  refine AQ O (uX ?_)
  refine BR O aad (BD (Heap.start (H.Bl 3 O)) 0 O O O Kt (Az O (Az O (BI H O (hPt (hOf H.only)) (XQ O) fun W1 H=>eH ?_))))
  refine Au ?_
  refine Gu mixed ?_;replace H:=H.drew
  refine Eo 0 O O O (fun _ hS=>CB O Iz) trivial (sG ?_)
  refine D6 1 4 ?_ ?_
  ·refine lG ?_
   refine kL ?_
   refine s_call O (hC (hOf H.only) (hSe H.only) (H.Bl 3 O)) (ao9 O) ?_
   rintro e W1 ⟨l',OW,oc',hn',rfl,H'⟩
   refine⟨_,rfl,?_⟩
   have H:=H.DN 3 rfl H';clear H';simp only[Bv]at H
   refine vZ ?_
   intro _ _ H';clear H;have H:=H';clear H'
   refine aH ?_
   clear H;intro PA' cP' _ H;simp only[Bv,Nat.reduceAdd]at H
   refine fK ?_
   clear H;refine ayJ fun _ H=>?_
   refine jm ?_
   (try simp only[BU]at H);rw[←BU,hmap]at H;exact⟨_,_,Y,rfl,k+1,PA',cP',l',OW,oc',out'++mo,Y,rfl,hn',Xr,ahd,hkn2,hout2,rfl,rfl,rfl,rfl,rfl,rfl,rfl,H⟩
  ·refine BO O (s_call O (hC (hOf H.only) (hSe H.only) (H.Bl 3 O)) (ao9 O) ?_)
   rintro e W1 ⟨l',OW,oc',hn',rfl,H'⟩
   refine⟨_,rfl,?_⟩
   have H:=H.DN 3 rfl H';clear H';simp only[Bv]at H
   refine aj ?_
   refine D6 1 5 ?_ ?_
   ·refine lG ?_
    refine vZ ?_
    intro _ _ H';clear H;have H:=H';clear H'
    refine aH ?_
    clear H;intro PA' cP' _ H;simp only[Bv,Nat.reduceAdd]at H
    refine fK ?_
    clear H;refine ayJ fun _ H=>?_
    refine jm ?_
    (try simp only[BU]at H);rw[←BU,hmap]at H;exact⟨_,_,Y,rfl,k+1,PA',cP',l',OW,oc',out'++mo,Y,rfl,hn',Xr,ahd,hkn2,hout2,rfl,rfl,rfl,rfl,rfl,rfl,rfl,H⟩
   ·refine BO O (cu ?_)
    intro _ _ H';clear H;have H:=H';clear H'
    refine nS ?_
    clear H;intro PA' cP' _ H;simp only[Bv,Nat.reduceAdd]at H
    refine fK ?_
    clear H;refine ayJ fun _ H=>?_
    refine jm ?_
    (try simp only[BU]at H);rw[←BU,hmap]at H;exact⟨_,_,Y,rfl,k+1,PA',cP',l',OW,oc',out'++mo,Y,rfl,hn',Xr,ahd,hkn2,hout2,rfl,rfl,rfl,rfl,rfl,rfl,rfl,H⟩
 ·obtain rfl:k=np:=Y
  have htp:pt.take k=pt:=by rw[←asA];exact DL
  rw[htp]at hkn' Me H
  obtain⟨f,rfl⟩:=lv7 f0 f1 f4 f5 f6 f24 f25
  clear f0 f1 f4 f5 f6 f24 f25
  refine je ?_
  refine AP (Aw (BR O aiP (BD H 2 O O O GU (tV ?_))))
  replace H:=(H.G6 1 26).order [1,0,2,3,4,5] rfl rfl
  refine Ec (fun z f W=>∃(j:Nat) (DB:Option Addr) (dD:Nat),j≤nq∧z=nq-j∧f 0=ptr p∧f 1= .int .i64 y∧f 4=ptr p4∧f 5=ptr p5∧f 48= .int .i64 nq∧f 49= .int .i64 j∧
   Heap w I [blk p5 [.slice PA k cP,.slice DB j dD] 77,Dw 1 (.slice DB j dD) j (((O5 d.cache y).take j).map (Value.int .u64)) 26,Dw 1 (.slice PA k cP) k ((pt.map (Gr.J3 out')).map (Value.int .i64)) 3,blk p6 [.int .i64 k,.int .i64 nq] 205,grp (Uf p g.p n ph bm l OA oc out' b),blk p4 [.slice none 0 0,.slice none 0 0] 77] W) nq ⟨0,none,0,Y,rfl,rfl,rfl,rfl,rfl,rfl,rfl,H⟩ ?_
  clear H
  rintro z f W ⟨j,DB,dD,hj,rfl,f0,f1,f4,f5,f48,f49,H⟩
  by_cases hlj:j<nq
  ·have hq:=hdr j hlj
   have hDa:=fun{W:World} hE=>alR (g:=g) (d:=d) (w:=W) hE hW Y y j hyh ⟨Y,Y⟩
   have hgb:=Ob.QG hW (y+(1+Ob.hp d.cache y+(j:Int)))
   generalize Nv.get d.cache (y+(1+Ob.hp d.cache y+(j:Int)))=v at*
   obtain⟨f,rfl⟩:=PX f0 f1 f4 f5 f48 f49
   clear f0 f1 f4 f5 f48 f49
   refine lW ?_
   refine AQ O (uX ?_)
   refine BR O aad (BD (Heap.start (H.Bl 4 O)) 0 O O O Kt (Az O (Az O (BI H O (hDa (hOf H.only)) (aa2 O) fun W1 H=>eH ?_))))
   refine Au (wX ?_)
   clear H;intro _ An cn _ H;simp only[Bv,Nat.reduceAdd]at H
   refine BR O Nc (Ic (u:= .slice _ _ _) H 0 O O O O O O amb ?_)
   clear H;refine ayJ fun _ H=>?_
   refine vG ?_
   rw[Jc hq]at H
   exact⟨_,_,Y,rfl,j+1,_,_,Y,rfl,rfl,rfl,rfl,rfl,rfl,rfl,H⟩
  ·obtain rfl:j=nq:=Y
   have htd:(O5 d.cache y).take j=O5 d.cache y:=by rw[←hdl];exact DL
   rw[htd]at H
   obtain⟨f,rfl⟩:=PX f0 f1 f4 f5 f48 f49
   clear f0 f1 f4 f5 f48 f49
   refine uS ?_
   refine Dn H 0 O O O Xe JR (Eh H 5 O O O O O O O JR ?_)
   clear H;refine ayJ fun _ H=>?_
   refine Au (BH (ZP O (IG H 5 O O O Xe JR) ?_))
   have H2:Heap w I ([_,_]++ [_,_,_,_]) _:=H.order [2,1,4,0,3,5] rfl rfl
   exact⟨l,OA,oc,out',PA,cP,DB,dD,k,j,Me,Qi,Rq,hex,hkn',Y,Y,rfl,(Heap.agS H2).Ew [0,1] rfl rfl⟩
end
end
end
end Go.Proofs.YtppilhpcmkekbaaGreat
