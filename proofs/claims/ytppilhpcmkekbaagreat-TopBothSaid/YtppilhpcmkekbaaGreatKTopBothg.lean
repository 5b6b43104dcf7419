/- Parts of the proof. -/
import Derived.Shelf.Sort.Plain
import Derived.Shelf.Slices.In.SortNone
import Derived.Sort.OwnSortedInts
import Derived.DeepKeys4
import Derived.Test.YtppilhpcmkekbaaGreatKTopBothb
import Derived.Test.YtppilhpcmkekbaaGreatKTopBothf
set_option linter.unusedSimpArgs false
set_option linter.unusedVariables false
set_option linter.unusedSectionVars false
set_option maxRecDepth 100000
set_option maxHeartbeats 16000000
namespace Go.Proofs.YtppilhpcmkekbaaGreat
open Go.Proofs.Tryz
section
section
open Go.RowKit
theorem UY(l:List Bool):∀k,(Nv.FX l k).length≤k
 |0=>by simp[Nv.FX]
 |k+1=>by
  have:=UY l k
  unfold Nv.FX;split
  ·simp;omega
  ·omega
theorem asu(g:Geo)(d:Nv.D)(m:Nat)(w:World)(hE:Dj (Dy g d) w)(ho:Nv.Ok d m)(hm:m≤100000):
 Calls prog 85 [ptr g.p].toArray w fun e w'=>∃A c,e= .returned (.slice A (Nv.FX d.dirty m).length c)∧Heap w [] [Ec 1 (.slice A (Nv.FX d.dirty m).length c) (Nv.FX d.dirty m).length ((Nv.FX d.dirty m).map (Value.int .i64)) 3] w':=by
 have HR:=Heap.start hE
 have H:=Heap.nil w
 have hd:=ho.hd
 generalize hF:ids (Dy g d)=F at HR
 unfold Dy Gq at HR
 rw[hd]at HR
 refine BO 23 func85 O (AP (EM O (AO (AP (EM O (AO (jW ?_)))))))
 refine BI O Qp (BG (HR.same H.only) 0 O O O RJ (Eb O underlying155 (xH ?_)))
 refine EO (fun q f W=>∃(k:Nat) (A:Option Addr) (c:Nat),k≤m∧q=m-k∧f 3= .slice A (Nv.FX d.dirty k).length c∧f 9= .slice (some ⟨g.bd,0,none⟩) m g.cd∧f 10= .int .i64 m∧f 11= .int .i64 k∧Heap w [] [Ec 1 (.slice A (Nv.FX d.dirty k).length c) (Nv.FX d.dirty k).length ((Nv.FX d.dirty k).map (Value.int .i64)) 3] W) m ⟨0,none,0,Y,rfl,rfl,rfl,rfl,rfl,H.Kr 1 3⟩ ?_
 clear H
 rintro q f W ⟨k,A,c,hk,rfl,h3,h9,h10,h11,H⟩
 obtain⟨f,rfl⟩:=Jj h3 h9 h10 h11
 clear h3 h9 h10 h11
 have hlen:=UY d.dirty k
 by_cases hlt:k<m
 ·by_cases hv:d.dirty.getD k false=true
  ·have e:Nv.FX d.dirty (k+1)=Nv.FX d.dirty k++ [(k:Int)]:=by rw[Nv.FX,if_pos hv]
   have el:(Nv.FX d.dirty (k+1)).length=(Nv.FX d.dirty k).length+1:=by rw[e];simp
   have hv':d.dirty[k]? =some true:=by rw[Xg Y];exact congrArg some hv
   refine xG ?_
   refine AO (EF O (DF (Dz O (AQ O (jo ?_)))))
   clear H;intro _ An cn _ H;simp only[Bv,Nat.reduceAdd]at H
   refine EM O (AZ (aS ?_))
   rw[←e,←el]at H
   refine⟨_,_,?_,rfl,k+1,_,_,Y,rfl,?_,rfl,rfl,rfl,H⟩
   ·omega
   ·rw[el];rfl
  ·have e:Nv.FX d.dirty (k+1)=Nv.FX d.dirty k:=by rw[Nv.FX,if_neg hv]
   have hv':d.dirty[k]? =some false:=by rw[Xg Y];exact congrArg some (by simpa using hv)
   refine xG ?_
   refine AO (o8 ?_)
   rw[←e]at H
   refine⟨_,_,?_,rfl,k+1,A,c,Y,rfl,?_,rfl,rfl,rfl,H⟩
   ·omega
   ·rw[e];rfl
 ·obtain rfl:k=m:=Y
  refine oh ?_
  refine Dz O (rW ?_)
  exact⟨A,c,rfl,H⟩
theorem alL(g:Geo)(d:Nv.D)(m:Nat)(w:World)(hE:Dj (Dy g d) w)(ho:Nv.Ok d m)(hg:Q5 g m)(hm:m≤100000):
 Calls prog 227 [ptr g.p].toArray w fun e w'=>e= .returned (.int .i64 (Nv.fence d m).2)∧Heap w (ids (Dy g d)) (Dy g (Nv.fence d m).1) w':=by
 have H0:=Heap.start hE
 by_cases hs:Nv.stops d=true
 ·have er:Nv.fence d m=(Nv.killed d,3):=by rw[Nv.fence,if_pos hs]
  rw[er]
  generalize hF:ids (Dy g d)=F at H0⊢
  have H:=H0
  refine BO 63 func227 O (oM ?_)
  refine A8 (AP (Bg O (s_call O (aa4 g d _ H0.ents hs) (aa0 O) ?_)))
  rintro e W1 ⟨rfl,H'⟩
  refine⟨_,rfl,?_⟩
  have H:=H0.whole H'
  refine AV (Ib O) (gG ?_)
  exact⟨rfl,H⟩
 ·have hs:Nv.stops d=false:=by simpa using hs
  have er:Nv.fence d m=(Nv.FW (Nv.stepped d) m,0):=by rw[Nv.fence,if_neg (by simp[hs])]
  rw[er]
  have ho1:=ho.stepped
  generalize hF:ids (Dy g d)=F at H0⊢
  have H:=H0
  have hp1:=ho1.hp
  refine BO 63 func227 O (oM ?_)
  refine A8 (AP (Bg O (xk ?_)))
  rintro e W1 ⟨rfl,H'⟩
  refine⟨_,rfl,?_⟩
  clear H;have H:=H0.whole H';clear H';have HD:=H;unfold Dy Gq at H
  refine eU ?_
  refine jW ?_
  refine BI O Yj (BG H 0 O O O RJ (Eb O underlying155 (xH ?_)))
  clear H
  refine EO (fun q f W=>∃(k:Nat),k≤m∧q=m-k∧f 0=ptr g.p∧f 11= .slice (some ⟨g.bp,0,none⟩) m g.cp∧f 12= .int .i64 m∧f 13= .int .i64 k∧Heap w F (Dy g (Nv.FW (Nv.stepped d) k)) W) m ⟨0,Y,rfl,rfl,by rw[←hp1];rfl,by rw[←hp1];rfl,rfl,HD⟩ ?_
  clear HD
  rintro q f W ⟨k,hk,rfl,h0,h11,h12,h13,H⟩
  obtain⟨f,rfl⟩:=Jj h0 h11 h12 h13
  clear h0 h11 h12 h13
  have hok:=ho1.FW k hk
  by_cases hlt:k<m
  ·have e:Nv.FW (Nv.stepped d) (k+1)=Nv.ED (Nv.FW (Nv.stepped d) k) k:=rfl
   generalize Nv.FW (Nv.stepped d) k=x at hok H e
   have hl:=hok.hl
   have hc:=hok.hc
   have hf:=hok.hf
   have hd:=hok.hd
   have hp:=hok.hp
   have hgl:=hg.l
   have hgc:=hg.c
   have hgf:=hg.f
   by_cases hv:x.pend.getD k false=true
   ·have hv':x.pend[k]? =some true:=by rw[Xg Y];exact congrArg some hv
    have er:Nv.ED x k={x with last:=Nv.GR x.last k (Nv.part x.fl k),pend:=x.pend.set k false,dirty:=x.dirty.set k (!Nv.same (Nv.part x.fl k) (Nv.part x.cache k))}:=by rw[Nv.ED,if_pos hv]
    have es:Nv.GR x.last k (Nv.part x.fl k)=x.last.take (8*k)++((x.fl.drop (8*k)).take 8++x.last.drop (8*k+8)):=by simp[Nv.GR,Nv.part]
    have hl2:(Nv.GR x.last k (Nv.part x.fl k)).length=x.last.length:=Nv.Jd Y (Nv.GU Y)
    have ep:((Nv.GR x.last k (Nv.part x.fl k)).drop (8*k)).take 8=Nv.part x.fl k:=by
     unfold Nv.GR
     rw[EK,List.drop_append,Un (by simp;exact Nat.min_le_left _ _),Ey,show 8*k-(x.last.take (8*k)).length=0 from by simp;omega,abd,List.take_append,Fp (by rw[Nv.GU Y];omega),Nv.GU Y,Hw,KJ,Dl]
    unfold Dy Gq at H
    refine aB ?_
    refine AQ O (jf ?_)
    refine AV (Td H 5 O O Ar Zi) (oG ?_)
    refine AP (BX O (AO (EF O (A8 (XT 14 mixed Aw H O O (lZ ?_))))))
    refine BZ (fun _ H=>Cm O aeh) (uH ?_)
    refine LH O O (fun _ H=>WG g.bf g.cf k _ _ _ Y) (ab2 O) (Iy ?_)
    clear H;intro _ H
    refine au0 (enc:=(Value.int .u64)) H 1 3 O O O O O (fun _=>rfl) Y underlying55 GH ?_
    clear H;refine axS fun _ H=>?_
    refine uj ?_
    refine wo ?_
    clear H;refine axS fun _ H=>?_
    refine AO ?_
    rw[←es]at H
    refine XT 21 mixed Aw H O O (ay ?_)
    refine BZ (fun _ H=>Cm O Qp) (BZ (fun _ H=>DR H 0 O O O RJ) (bK ?_))
    refine lZ ?_
    refine BZ (fun _ H=>Cm O Ox) (uH ?_)
    refine LH O O (fun _ H=>WG g.bc g.cc k _ _ _ Y) (ab2 O) ?_
    refine LH O O (fun _ H=>arA _ _ _ _ _ _ 8 _ _ _ (by have:=H.reads 1 O (8*k) 8;rw[ep]at this;exact this) (H.reads 2 O (8*k) 8) (Nv.GU Y) (Nv.GU Y) Y) (avp O) ?_
    refine BZ (fun _ H=>alk O) (Iy ?_)
    clear H;intro _ H
    refine jf ?_
    refine ahs (u:= .bool _) H 4 O O O O O Y (fun _=>rfl) sz4 ?_
    clear H;refine axS fun _ H=>?_
    refine AZ (aS ?_)
    refine⟨_,_,?_,rfl,k+1,Y,rfl,rfl,rfl,rfl,rfl,?_⟩
    ·omega
    ·rw[e,er]
     unfold Dy Gq
     simp only[hl2,Hz]
     simpa [Nv.part]using H
   ·have hv':x.pend[k]? =some false:=by rw[Xg Y];exact congrArg some (by simpa using hv)
    have er:Nv.ED x k=x:=by rw[Nv.ED,if_neg hv]
    have H2:=H
    unfold Dy Gq at H
    refine aB ?_
    refine AQ O (jf ?_)
    refine AV (Td H 5 O O Ar Zi) (oG ?_)
    refine AP (BX O (AO (o8 ?_)))
    refine⟨_,_,?_,rfl,k+1,Y,rfl,rfl,rfl,rfl,rfl,?_⟩
    ·omega
    ·rw[e,er];exact H
  ·obtain rfl:k=m:=Y
   refine oh ?_
   refine eu ?_
   exact⟨rfl,H⟩
theorem U3(g:Geo)(d:Nv.D)(m:Nat)(a n:Int)(w:World)(hE:Dj (Dy g d) w)(ho:Nv.Ok d m)(hg:Q5 g m)(hm:m≤100000):
 Calls prog 163 [ptr g.p,.int .i64 a,.int .i64 n].toArray w fun e w'=>e= .returned (.int .i64 (Nv.persist d m a n).2)∧Heap w (ids (Dy g d)) (Dy g (Nv.persist d m a n).1) w':=by
 have H:=Heap.start hE
 generalize hF:ids (Dy g d)=F at H⊢
 have hc:(d.cache.length:Int)=8*(m:Int):=by have:=ho.hc;omega
 have hL:=Zw g d
 rw[hc]at hL
 unfold Nv.persist
 by_cases h1:a<0
 ·rw[if_pos (.inl h1)]
  refine BO 50 func163 O (AP (qG ?_))
  refine Df 11 O O (Df 11 O O (EZ O O (BX O (Df 15 O O (Df 15 O O (Df 15 O O (Df 15 O O (EZ O O (BX O (lH ?_))))))))))
  exact⟨rfl,H⟩
 by_cases h2:n<0
 ·rw[if_pos (.inr (.inl h2))]
  refine BO 50 func163 O (AP (bV ?_))
  refine Bo 11 O (Gm O) (Bo 11 O (DI O O Y) (DW O O (BX O (Df 15 O O (Df 15 O O (Df 15 O O (Df 15 O O (EZ O O (BX O (lH ?_))))))))))
  exact⟨rfl,H⟩
 by_cases h3:8*(m:Int)<a
 ·rw[if_pos (.inr (.inr (.inl h3)))]
  refine BO 50 func163 O (AP (eX ?_))
  rintro e W1 ⟨rfl,H'⟩
  refine⟨_,rfl,?_⟩
  have H:=H.same H';clear H'
  refine Bo 15 O (Oz O O Y) (DW O O (BX O (lH ?_)))
  exact⟨rfl,H⟩
 by_cases h4:8*(m:Int)-a<n
 ·rw[if_pos (.inr (.inr (.inr h4)))]
  refine BO 50 func163 O (AP (eX ?_))
  rintro e W1 ⟨rfl,H'⟩
  refine⟨_,rfl,?_⟩
  have H:=H.same H';clear H'
  refine ku ?_
  rintro e W1 ⟨rfl,H'⟩
  refine⟨_,rfl,?_⟩
  have H:=H.same H';clear H'
  refine Bo 21 O (Gm O) (Bo 21 O (Gu O O (wI Y)) (Bo 21 O (Oz O O Y) (DW O O (gG ?_))))
  exact⟨rfl,H⟩
 rw[if_neg Y]
 by_cases h5:n=0
 ·rw[if_pos h5]
  refine BO 50 func163 O (AP (eX ?_))
  rintro e W1 ⟨rfl,H'⟩
  refine⟨_,rfl,?_⟩
  have H:=H.same H';clear H'
  refine ku ?_
  rintro e W1 ⟨rfl,H'⟩
  refine⟨_,rfl,?_⟩
  have H:=H.same H';clear H'
  refine Bo 21 O (Gm O) (Bo 21 O (Gu O O (wI Y)) (Bo 21 O (Jy O O Y) (gQ ?_)))
  refine iQ ?_
  refine AV (Jy O O Y) (dK ?_)
  refine AP (Bg O (s_call O (alL g d m _ H.ents ho hg hm) (aqt O) ?_))
  rintro e W1 ⟨rfl,H'⟩
  refine⟨_,rfl,?_⟩
  have H:=H.whole H';clear H'
  refine eu ?_
  exact⟨rfl,H⟩
 rw[if_neg h5]
 obtain⟨i,hi⟩:∃i:Nat,(a/8).toNat=i:=⟨_,rfl⟩
 obtain⟨q,hq⟩:∃q:Nat,((a+n-1)/8).toNat+1-(a/8).toNat=q:=⟨_,rfl⟩
 rw[hi]at hq
 rw[hi,hq]
 have hiq:(i:Int)=a/8∧((i+q:Nat):Int)=(a+n-1)/8+1:=Y
 refine BO 50 func163 O (AP (eX ?_))
 rintro e W1 ⟨rfl,H'⟩
 refine⟨_,rfl,?_⟩
 have H:=H.same H';clear H'
 refine ku ?_
 rintro e W1 ⟨rfl,H'⟩
 refine⟨_,rfl,?_⟩
 have H:=H.same H';clear H'
 refine Bo 21 O (Gm O) (Bo 21 O (Gu O O (wI Y)) (Bo 21 O (Jy O O Y) (gQ ?_)))
 refine iQ ?_
 refine AV (Oz O O Y) (oV ?_)
 refine AQ O (AV (SI O O Y (wI Y)) (AY O (AO (E8 ?_))))
 refine EO (fun z f W=>∃(j:Nat) (x:Nv.D),j≤q∧z=q-j∧Nv.Ok x m∧Nv.D8 d m i q=Nv.D8 x m (i+j) (q-j)∧f 0=ptr g.p∧f 1= .int .i64 a∧f 2= .int .i64 n∧f 7= .int .i64 (i+j:Nat)∧Heap w F (Dy g x) W) q ⟨0,d,Y,rfl,ho,rfl,rfl,rfl,rfl,by rw[Kt,hiq.1];rfl,H⟩ ?_
 clear H
 rintro z f W ⟨j,x,hj,rfl,hx,hfl,h0,h1',h2',h7,H⟩
 obtain⟨f,rfl⟩:=Jj h0 h1' h2' h7
 clear h0 h1' h2' h7
 by_cases hlt:j<q
 ·obtain⟨r,hr⟩:∃r,q-j=r+1:=⟨q-j-1,Y⟩
  rw[hr,Nv.D8]at hfl
  by_cases he:(Nv.flush x m ((i+j:Nat):Int)).2=0
  ·rw[if_pos he]at hfl
   have hF2:=ana g x m ((i+j:Nat):Int) W H.ents hx hg hm
   rw[he]at hF2
   refine rP ?_
   refine AV (YU O O Y) (AO (ng ?_))
   refine eH ?_
   refine s_call O (hF2) (ap7 O) ?_
   rintro e W1 ⟨rfl,H'⟩
   refine⟨_,rfl,?_⟩
   have H:=H.whole H';clear H'
   refine uZ ?_
   refine⟨_,_,?_,rfl,j+1,_,Y,rfl,hx.flush _,?_,rfl,rfl,rfl,rfl,H⟩
   ·omega
   ·rw[hfl,show q-(j+1)=r from by omega];rfl
  ·rw[if_neg he]at hfl
   have hF2:=ana g x m ((i+j:Nat):Int) W H.ents hx hg hm
   have er:Nv.D8 d m i q=Nv.flush x m ((i+j:Nat):Int):=hfl
   rw[er,if_neg he]
   refine rP ?_
   refine AV (YU O O Y) (AO (ng ?_))
   refine eH ?_
   refine s_call O (hF2) (ap7 O) ?_
   rintro e W1 ⟨rfl,H'⟩
   refine⟨_,rfl,?_⟩
   have H:=H.whole H';clear H'
   refine AY O (AO (sO ?_))
   exact⟨rfl,H⟩
 ·obtain rfl:j=q:=Y
  rw[Hw,Nv.D8]at hfl
  rw[hfl,if_pos rfl]
  refine rP ?_
  refine AV (aaJ O O Y) (AO (eG ?_))
  refine AP (Bg O (s_call O (alL g x m _ H.ents hx hg hm) (aqt O) ?_))
  rintro e W1 ⟨rfl,H'⟩
  refine⟨_,rfl,?_⟩
  have H:=H.whole H';clear H'
  refine eu ?_
  exact⟨rfl,H⟩
end
end
section
section
open Go.RowKit
theorem anw(g:Geo)(d:Nv.D)(m:Nat)(w:World)(hE:Dj (Dy g d) w)(ho:Nv.Ok d m)(hm:m≤100000):
 Calls prog 85 [ptr g.p].toArray w fun e w'=>∃A b c,e= .returned (.slice A (Nv.FX d.dirty m).length c)∧((Nv.FX d.dirty m).length≠0→A=some ⟨b,0,none⟩)∧Heap w [] [vec (Value.int .i64) b (Nv.FX d.dirty m) 3] w':=by
 refine(asu g d m w hE ho hm).mono ?_
 rintro e w' ⟨A,c,rfl,H⟩
 obtain⟨b,hb,H2⟩:=akL H
 exact⟨A,b,c,rfl,hb,H2⟩
theorem PN{d:Nv.D}{m:Nat}(ho:Nv.Ok d m)(cs:List Int):∀k,(Nv.Jp d (Nv.FX d.dirty m) cs k).length=8*m
 |0=>ho.hl
 |k+1=>by
  unfold Nv.Jp
  split
  ·rename_i h
   obtain⟨i,e,hi,_⟩:=Nv.PE d.dirty m k _ (Xg h.1)
   have e2:((Nv.FX d.dirty m).getD k 0).toNat=i:=by
    have:(Nv.FX d.dirty m).getD k 0=(i:Int):=e
    rw[this];simp
   rw[e2]
   exact Nv.ZF ho (PN ho cs k) hi _
  ·exact PN ho cs k
theorem aro(g:Geo)(d:Nv.D)(m:Nat)(A:Option Addr)(nc cc:Nat)(cs:List Int)(w:World)(hE:Dj (Dy g d) w)(ho:Nv.Ok d m)(hg:Q5 g m)(hm:m≤100000)
 (hz:I5 (Value.int .u8) w [] A cs) (hl:cs.length=nc) (hb:∀z∈cs,0≤z) (hnc:nc≤1000000):
 Calls prog 23 [ptr g.p,.slice A nc cc].toArray w fun e w'=>∃g',e= .returned (ptr g'.p)∧Q5 g' m∧Heap w [] (Dy g' (Nv.load (Nv.Jp d (Nv.FX d.dirty m) cs (Nv.FX d.dirty m).length) m)) w':=by
 have HR:=Heap.start hE
 have HR0:=HR
 have H:=Heap.nil w
 have hlast:=ho.hl
 generalize hF:ids (Dy g d)=F at HR HR0
 unfold Dy Gq at HR
 rw[hlast]at HR
 refine BO 68 func23 O (AP (Fb O (uj ?_)))
 refine BI O aeB (BG (HR.same H.only) 0 O O O O4 (s_call O (MI _ _ _ d.last _ (fun _=>⟨_,_,rfl,J,(HR.same H.only).MP 1 O⟩) Y Y) (Vr O) ?_))
 rintro e W1 ⟨bo,co,rfl,hco,H'⟩
 refine⟨_,rfl,?_⟩
 have H:=H.more H';clear H'
 refine EM O (AO (A8 (AP (Bg O (s_call O (anw g d m _ (HR0.same H.only).ents ho hm) (awL O) ?_)))))
 rintro e W1 ⟨AD,bD,cD,rfl,hAD,H'⟩
 refine⟨_,rfl,?_⟩
 have H:=H.more H';clear H';simp only[Bv]at H
 refine Eb O underlying22 (xH ?_)
 have hdl:=UY d.dirty m
 have hmem:=Nv.PE d.dirty m
 have hcl:=PN ho cs
 have hstop:=Nv.Yh d (Nv.FX d.dirty m) cs
 have hT:=Nv.Xm d (Nv.FX d.dirty m) cs
 generalize hls:Nv.FX d.dirty m=ls at*
 refine EO (fun q f W=>∃(k:Nat),k≤ls.length∧q=ls.length-k∧f 0=ptr g.p∧f 1= .slice A nc cc∧f 5= .slice (some ⟨bo,0,none⟩) (8*m) co∧f 14= .slice AD ls.length cD∧f 15= .int .i64 ls.length∧f 16= .int .i64 k∧Heap w [] [vec (Value.int .i64) bD ls 3,vec (Value.int .u64) bo (Nv.Jp d ls cs k) 26] W) ls.length ⟨0,Y,rfl,rfl,rfl,rfl,rfl,rfl,rfl,H⟩ ?_
 clear H
 rintro q f W ⟨k,hk,rfl,h0,h1,h5,h14,h15,h16,H⟩
 by_cases hlt:k<ls.length
 ·obtain rfl:=hAD Y
  obtain⟨i,hi,him,hdi⟩:=hmem k _ (Xg hlt)
  have hli:ls[k]? =some (i:Int):=by rw[Xg hlt,hi]
  obtain⟨f,rfl⟩:=XC h0 h1 h5 h14 h15 h16
  clear h0 h1 h5 h14 h15 h16
  by_cases hkc:k<cs.length
  ·have hck:=Xg hkc
   have hc0:0≤cs.getD k default:=hb _ (BP hck)
   obtain⟨bc,oc,rfl,_,hrc⟩:=hz Y
   have hcell:=hrc k _ hck
   have er:Nv.Jp d ls cs (k+1)=Nv.QN d (Nv.Jp d ls cs k) i (cs.getD k default):=by
    rw[hT,if_pos ⟨hlt,hkc⟩]
    have:ls.getD k 0=(i:Int):=hi
    rw[this];simp
   have axP:=hcl k
   have axN:=hcl (k+1)
   generalize Nv.Jp d ls cs k=out at*
   generalize cs.getD k default=c at*
   have hgc:=hg.c
   have hgf:=hg.f
   have hf:=ho.hf
   have hc:=ho.hc
   have hp:=ho.hp
   unfold Nv.QN at er
   by_cases g1:c%3=1
   ·rw[if_pos g1]at er
    by_cases g2:d.pend.getD i false=true
    ·have g2':d.pend[i]? =some true:=by rw[Xg Y];exact congrArg some g2
     rw[if_pos g2]at er
     refine qM ?_
     refine pV ?_
     refine BZ (fun _ H=>Cm O aeh) (BZ (fun _ H=>DR (HR.same H.only) 0 O O O O4) (bK ?_))
     refine LH O O (fun _ H=>WG g.bf g.cf i _ _ _ Y) (ab2 O) (Iy ?_)
     clear H;intro _ H
     refine apO (enc:=(Value.int .u64)) H 1 O O O O (HR.reads 3 O (8*i) 8) J Am (fun _=>rfl) (by first|omega|(simp;omega)) underlying55 GH ?_
     clear H;refine axS fun _ H=>?_
     refine AZ (CS (aS ?_))
     refine⟨_,_,?_,rfl,k+1,Y,rfl,rfl,rfl,rfl,rfl,rfl,rfl,?_⟩
     ·omega
     ·rw[er];simpa [Nv.GR,Nv.part]using H
    ·have g2':d.pend[i]? =some false:=by rw[Xg Y];exact congrArg some (by simpa using g2)
     rw[if_neg g2]at er
     refine qM ?_
     refine DC O (Bj (CS (aS ?_)))
     refine⟨_,_,?_,rfl,k+1,Y,rfl,rfl,rfl,rfl,rfl,rfl,rfl,?_⟩
     ·omega
     ·rw[er];exact H
   ·rw[if_neg g1]at er
    by_cases g2:c%3=2
    ·rw[if_pos g2]at er
     refine aB ?_
     refine AQ O (kR ?_)
     refine A8 (fD ?_)
     refine AO (E8 (AP (iq ?_)))
     refine iO ?_
     refine AO (pV ?_)
     refine BZ (fun _ H=>Cm O Ox) (BZ (fun _ H=>DR (HR.same H.only) 0 O O O O4) (bK ?_))
     refine LH O O (fun _ H=>WG g.bc g.cc i _ _ _ Y) (ab2 O) (Iy ?_)
     clear H;intro _ H
     refine apO (enc:=(Value.int .u64)) H 1 O O O O (HR.reads 2 O (8*i) 8) J Am (fun _=>rfl) (by first|omega|(simp;omega)) underlying55 GH ?_
     clear H;refine axS fun _ H=>?_
     refine AZ (CS (aS ?_))
     refine⟨_,_,?_,rfl,k+1,Y,rfl,rfl,rfl,rfl,rfl,rfl,rfl,?_⟩
     ·omega
     ·rw[er];simpa [Nv.GR,Nv.part]using H
    ·rw[if_neg g2]at er
     refine aB ?_
     refine AQ O (kR ?_)
     refine A8 (fD ?_)
     refine AO (E8 (AP (iq ?_)))
     refine dX ?_
     refine AO (DC O (Bj (CS (aS ?_))))
     refine⟨_,_,?_,rfl,k+1,Y,rfl,rfl,rfl,rfl,rfl,rfl,rfl,?_⟩
     ·omega
     ·rw[er];exact H
  ·have e:=hstop k (.inr Y) (ls.length-k)
   rw[show k+(ls.length-k)=ls.length from by omega]at e
   have hck:=hcl k
   rw[e]
   generalize Nv.Jp d ls cs k=out at*
   refine aB ?_
   refine AQ O (kR ?_)
   refine iQ ?_
   refine Dz O (Eb O underlying39 (AV (GI O O Y) (AO (EF O (Eo (CY (alx O (CY (CY (Fv (AX (AP (Dz O ?_)))))))))))))
   refine s_call O (ang bo co m out _ H.drop.ents hck hm hco) (aqD O) ?_
   rintro e W1 ⟨g',rfl,hg',H'⟩
   refine⟨_,rfl,?_⟩
   have H:=H.drop.whole H';clear H'
   refine sQ ?_
   exact⟨g',rfl,hg',H⟩
 ·obtain rfl:k=ls.length:=Y
  obtain⟨f,rfl⟩:=XC h0 h1 h5 h14 h15 h16
  clear h0 h1 h5 h14 h15 h16
  have hck:=hcl ls.length
  generalize Nv.Jp d ls cs ls.length=out at*
  refine oh ?_
  refine Dz O (s_call O (ang bo co m out _ H.drop.ents hck hm hco) (aqD O) ?_)
  rintro e W1 ⟨g',rfl,hg',H'⟩
  refine⟨_,rfl,?_⟩
  have H:=H.drop.whole H';clear H'
  refine sQ ?_
  exact⟨g',rfl,hg',H⟩
end
end
section
section
open Go.RowKit
def fnC(N:Nat)(g:Nat→Value):List Value:=(List.range N).map g
theorem aiL{N i:Nat}{g:Nat→Value}(hi:i<N):(fnC N g)[i]? =some (g i):=by
 unfold fnC;rw[Cb,Ip hi];rfl
theorem WC{α:Type _}(N i:Nat)(g:Nat→α)(v:α):((List.range N).map g).set i v=(List.range N).map (fun j=>if j=i then v else g j):=by
 apply EU
 intro j
 rw[EJ]
 by_cases hj:j<N
 ·by_cases e:i=j
  ·subst e
   rw[if_pos rfl,Cb,Ip hj]
   simp[hj]
  ·rw[if_neg e,Cb,Cb,Ip hj]
   have:¬j=i:=fun e2=>e e2.symm
   simp[this]
 ·have h1:∀(h:Nat→α),((List.range N).map h)[j]? =none:=fun h=>by rw[DX];simp;omega
  rw[h1]
  by_cases e:i=j
  ·subst e;rw[if_pos rfl,if_neg zN,h1]
  ·rw[if_neg e,h1]
theorem anD(N i:Nat)(g:Nat→Value)(v:Value):(fnC N g).set i v=fnC N (fun j=>if j=i then v else g j):=WC N i g v
theorem Vz{N:Nat}{g h:Nat→Value}(e:∀i,i<N→g i=h i):fnC N g=fnC N h:=by
 unfold fnC
 exact JA fun i hi=>e i zZ
structure EP where
 A:Option Addr
 n:Nat
 c:Nat
 xs:List Int
def EP.v(r:EP):Value:= .slice r.A r.n r.c
def EP.nil:EP:=⟨none,0,0,[]⟩
def P7(T:TypeId)(r:EP):FU:=Ec 1 (.slice r.A r.n r.c) r.n (r.xs.map (Value.int .i64)) T
def JJ(F:Nat→EP)(i:Nat)(r:EP):Nat→EP:=fun j=>if j=i then r else F j
theorem Oy(F:Nat→EP)(i:Nat)(r:EP):JJ F i r i=r:=by unfold JJ;rw[if_pos rfl]
theorem Lp(F:Nat→EP){i j:Nat}(r:EP)(h:j≠i):JJ F i r j=F j:=by unfold JJ;rw[if_neg h]
theorem Vm(F:Nat→EP)(i:Nat)(r q:EP):JJ (JJ F i r) i q=JJ F i q:=by
 funext j;unfold JJ;split<;>rfl
def OU(T:TypeId)(N:Nat)(F:Nat→EP):List FU:=(List.range N).map fun i=>P7 T (F i)
def Yt(T:TypeId)(N:Nat)(F:Nat→EP):FU:=grp (OU T N F)
section
variable{w0 W:World}{Fr:List Nat}{L A:List FU}
theorem Heap.splice(H:Heap w0 Fr (grp A::L) W):Heap w0 Fr (A++L) W:=by
 have e:ids (A++L)=ids (grp A::L):=by rw[EX,Ep];rfl
 refine⟨fun E hE=>?_,by rw[e];exact H.nd,by rw[e];exact H.own,H.only⟩
 rcases Ci.1 hE with h|h
 ·exact(H.Bl 0 rfl).1 E h
 ·exact H.ok E (DZ _ h)
theorem Heap.bundle(H:Heap w0 Fr (A++L) W):Heap w0 Fr (grp A::L) W:=by
 have e:ids (A++L)=ids (grp A::L):=by rw[EX,Ep];rfl
 refine⟨fun E hE=>?_,by rw[←e];exact H.nd,by rw[←e];exact H.own,H.only⟩
 rcases Dh.1 hE with rfl|h
 ·exact H.part
 ·exact H.ok E (Du _ h)
theorem afC(T:TypeId)(N i:Nat)(F:Nat→EP)(r:EP):(OU T N F).set i (P7 T r)=OU T N (JJ F i r):=by
 unfold OU
 rw[WC]
 refine JA fun j _=>?_
 unfold JJ
 split<;>rfl
theorem aaS{T:TypeId}{N i:Nat}{F:Nat→EP}(hi:i<N):(OU T N F)[i]? =some (P7 T (F i)):=by
 unfold OU;rw[Cb,Ip hi];rfl
theorem agc(T:TypeId)(N:Nat)(F:Nat→EP):(OU T N F).length=N:=by unfold OU;simp
theorem Heap.avj{T:TypeId}{N:Nat}{F:Nat→EP}(H:Heap w0 Fr (Yt T N F::L) W){i:Nat}(hi:i<N):Heap w0 Fr (P7 T (F i)::Yt T N (JJ F i EP.nil)::L) W:=by
 have h1:Heap w0 Fr (OU T N F++L) W:=H.splice
 have hl:i<(OU T N F).length:=by rw[agc];exact hi
 have hp:=O0 (OU T N F) i hl
 have hg:(OU T N F)[i]=P7 T (F i):=by
  have:=aaS (T:=T) (F:=F) hi
  rw[Ba hl]at this
  injection this
 rw[hg]at hp
 have h2:Heap w0 Fr ((P7 T (F i)::(OU T N F).eraseIdx i)++L) W:=h1.perm (hp.append_right L)
 have h3:=h2.Kr 1 T
 have hq:=set_perm (OU T N F) i (P7 T EP.nil) hl
 rw[afC]at hq
 have h4:Heap w0 Fr ((OU T N (JJ F i EP.nil)++(P7 T (F i)::L))) W:=by
  refine h3.perm ?_
  refine List.Perm.trans ?_ (hq.symm.append_right _)
  rw[EL,EL]
  refine List.Perm.cons _ ?_
  exact O3.symm
 have h5:=h4.bundle
 exact h5.perm (List.Perm.swap _ _ _)
theorem Heap.auo{T:TypeId}{N:Nat}{F:Nat→EP}{r:EP}(H:Heap w0 Fr (P7 T r::Yt T N F::L) W){i:Nat}(hi:i<N)(hF:F i=EP.nil):Heap w0 Fr (Yt T N (JJ F i r)::L) W:=by
 have h0:Heap w0 Fr (grp (OU T N F)::(P7 T r::L)) W:=H.perm (List.Perm.swap _ _ _)
 have h1:=h0.splice
 have hl:i<(OU T N F).length:=by rw[agc];exact hi
 have hp:=O0 (OU T N F) i hl
 have hg:(OU T N F)[i]=P7 T (F i):=by
  have:=aaS (T:=T) (F:=F) hi
  rw[Ba hl]at this
  injection this
 rw[hg,hF]at hp
 have h2:Heap w0 Fr (P7 T EP.nil::((OU T N F).eraseIdx i++(P7 T r::L))) W:=h1.perm (hp.append_right _)
 have h3:=h2.drop
 have hq:=set_perm (OU T N F) i (P7 T r) hl
 rw[afC]at hq
 have h4:Heap w0 Fr (OU T N (JJ F i r)++L) W:=by
  refine h3.perm ?_
  refine List.Perm.trans ?_ (hq.symm.append_right _)
  exact O3
 exact h4.bundle
theorem Heap.pull{T:TypeId}{N:Nat}{F:Nat→EP}(H:Heap w0 Fr L W)(j:Nat)(hj:L[j]? =some (Yt T N F)){i:Nat}(hi:i<N):Heap w0 Fr (P7 T (F i)::L.set j (Yt T N (JJ F i EP.nil))) W:=by
 obtain⟨hlt,_⟩:=BK.1 hj
 have h1:=(H.pick j hj).avj hi
 refine h1.perm (List.Perm.cons _ ?_)
 exact(set_perm L j _ hlt).symm
theorem Heap.push{T:TypeId}{N:Nat}{F:Nat→EP}{r:EP}(H:Heap w0 Fr (P7 T r::L) W)(j:Nat)(hj:L[j]? =some (Yt T N F)){i:Nat}(hi:i<N)(hF:F i=EP.nil):Heap w0 Fr (L.set j (Yt T N (JJ F i r))) W:=by
 obtain⟨hlt,_⟩:=BK.1 hj
 have h0:Heap w0 Fr (P7 T r::Yt T N F::L.eraseIdx j) W:=H.perm (List.Perm.cons _ (by
  have:=O0 L j hlt
  have hg:L[j]=Yt T N F:=by
   rw[Ba hlt]at hj
   injection hj
  rwa [hg]at this))
 exact(h0.auo hi hF).perm (set_perm L j _ hlt).symm
theorem Dj.row{T:TypeId}{N:Nat}{F:Nat→EP}{j:Nat}{A:List FU}(hE:Dj A W)(hj:A[j]? =some (Yt T N F)){i:Nat}(hi:i<N):W.ownsRow 0 T 1 (.slice (F i).A (F i).n (F i).c) (F i).n ((F i).xs.map (Value.int .i64)):=by
 have h:=(Heap.start hE).Bl j hj
 exact h.1 _ (BP (aaS hi))
theorem MW{T:TypeId}{N:Nat}{F:Nat→EP}(H:Heap w0 Fr L W)(j:Nat)(hj:L[j]? =some (Yt T N F)){i:Nat}(hi:i<N):(F i).xs.length=(F i).n:=by
 have h:=(H.ents.row hj hi).1
 simpa using h
theorem aeY{T:TypeId}{N:Nat}{F:Nat→EP}(H:Heap w0 Fr L W)(j:Nat)(hj:L[j]? =some (Yt T N F)){i:Nat}(hi:i<N):I5 (Value.int .i64) W [] (F i).A (F i).xs:=by
 have h:=H.pull j hj hi
 exact FB h 0 rfl
theorem Heap.shrink{size n c m:Nat}{B:Option Addr}{xs:List Value}{T:TypeId}(H:Heap w0 Fr L W)(j:Nat)(hj:L[j]? =some (Ec size (.slice B n c) n xs T))(hm:m≤n)(h0:B=none→m=0∧c=0):Heap w0 Fr (L.set j (Ec size (.slice B m c) m (xs.take (m*size)) T)) W:=by
 refine H.at j hj (F':=(Ec size (.slice B n c) n xs T).ids) ⟨?_,?_,?_,Only.refl _ _⟩ (fun _ h=>h)
 ·intro E hE
  rw[Bz.1 hE]
  have ho:=H.JE j hj
  show W.ownsRow 0 T size (.slice B m c) m (xs.take (m*size))
  rcases ho.2 with⟨e,h2⟩|⟨g,cap,cur,e,h1,h2,h3,h4,h5,h6⟩
  ·injection e with e1 e2 e3
   obtain⟨rfl,rfl⟩:=h0 e1
   subst e1
   simp only[XZ,KJ]
   exact World.ownsRow_nil W 0 T size
  ·injection e with e1 e2 e3
   subst e1;subst e3
   refine⟨by rw[Ed,ho.1];exact Lj (MK _ hm),.inr ⟨g,c,cur,rfl,h1,h2,Y,h4,h5,?_⟩⟩
   rw[←h6,List.take_take,Lj (MK _ hm)]
 ·simp[ids,Ec,Value.ownBlock];cases B<;>simp
 ·intro i hi
  left
  simp only[ids,LW,Nj,Dl]at hi
  cases B<;>exact hi
theorem Heap.Ro{size n c m:Nat}{B:Option Addr}{xs:List Value}{T:TypeId}(H:Heap w0 Fr L W)(j:Nat)(hj:L[j]? =some (Ec size (.slice B n c) n xs T))(hm:m≤n):Heap w0 Fr (L.set j (Ec size (.slice B m c) m (xs.take (m*size)) T)) W:=by
 refine H.shrink j hj hm fun hB=>?_
 subst hB
 rcases(H.JE j hj).2 with⟨e,h2⟩|⟨g,cap,cur,e,_⟩
 ·injection e with _ e2 e3
  exact⟨Y,e3⟩
 ·injection e with e1;cases e1
theorem WR{r:EP}{m:Nat}{T:TypeId}(H:Heap w0 Fr L W)(j:Nat)(hj:L[j]? =some (P7 T r))(hm:m≤r.n):Heap w0 Fr (L.set j (P7 T ⟨r.A,m,r.c,r.xs.take m⟩)) W:=by
 have h:=H.Ro j hj hm
 rw[GY,←Kw]at h
 exact h
end
end
end
section
section
open Go.RowKit
section
variable{P:Program}{ops:Array Oper}{rest:List Oper}{n:Sz}{k k2:Nat}{f:Nat→Value}{W w0:World}{F:List Nat}{L:List FU}{Q:Exit→Act→World→Prop}{ty ty2:TypeId}{pos pos2:String}{af af2:Array Edge}{g:Option (Nat×Bool)}{x y s:Operand}{v u:Value}{t e:TypeId}
theorem aqd{α:Type}{enc:α→Value}{z:α}{m c i l2 c2 bytes:Nat}{A:Option Addr}{xs:List α}(H:Heap w0 F L W)(j:Nat)(hw:Region.wanted ⟨none,.call ⟨.builtin .clear,#[x],#[t]⟩,ty,pos,af,g⟩ (yl n f ops)=true)
 (hx:ev n f x= .slice (abf A c i 1) l2 c2) (hj:L[j]? =some (Ec 1 (.slice A m c) m (xs.map enc) e)) (hl:l2=m-i) (hi:i≤m) (ht:P.underlying t=some (.slice e)) (hin:Inf P e (enc z) 1 bytes) (h1:(enc z).oneCell'=true)
 (h:∀W',Heap w0 F (L.set j (Ec 1 (.slice A m c) m ((xs.take i++List.replicate (m-i) z).map enc) e)) W'→SL P ops Q rest n f W'):SL P ops Q (⟨none,.call ⟨.builtin .clear,#[x],#[t]⟩,ty,pos,af,g⟩::rest) n f W:=by
 subst hl
 have ho:=H.JE j hj
 have hxl:xs.length=m:=by simpa using ho.1
 obtain⟨ii,hi0,hz0,hsz,_⟩:=hin.ex
 by_cases h0:m-i=0
 ·have hrun:(Builtin.clear_ #[t] ty #[.slice (abf A c i 1) (m-i) c2]).run P W= .ok (.tuple #[]) W:=by
   rw[h0]
   cases abf A c i 1<;>simp[Builtin.clear_,run_underlying ht]
  refine arz (W':=W) (v:= .tuple #[]) O hw Ah (h _ ?_)
  have:xs.take i++List.replicate (m-i) z=xs:=by
   rw[h0,P8,Dl,Fp Y]
  rw[this,show L.set j (Ec 1 (.slice A m c) m (xs.map enc) e)=L by
   apply EU
   intro a
   rw[EJ]
   split
   ·rename_i e1
    subst e1
    rw[hj]
    simp only[(BK.1 hj).1,if_true]
   ·rfl]
  exact H
 ·rcases ho.2 with⟨e0,h2⟩|⟨g0,cap,cur,e0,h2,hg,h4,h5,h6,h7⟩
  ·omega
  ·injection e0 with e1 e2 e3
   subst e1;subst e3
   have hsl:abf (some ⟨g0,0,none⟩) c i 1=some ⟨g0,i,none⟩:=by
    unfold abf
    rw[EG,if_neg Y]
    simp only[Addr.add,GY,EH]
    split
    ·rename_i e9;rw[e9]
    ·rfl
   rw[hsl]at hx
   have hlen:cur.toList.length=c:=by simpa using h6
   have hst:=run_storeCells_at P g0 i e (List.replicate (m-i) (enc z)) 0 cur W hg (by rw[Dn];omega) (fun v hv=>by rw[(QJ.1 hv).2];exact h1)
   have hz1:(zeroValue e).run P W= .ok (enc z) W:=by simp[zeroValue,typeInfo,hi0,hz0]
   have hrun:(Builtin.clear_ #[t] ty #[.slice (some ⟨g0,i,none⟩) (m-i) c2]).run P W= .ok (.tuple #[]) (W.setRow g0 (cur.toList.take (i+0)++List.replicate (m-i) (enc z)++cur.toList.drop (i+0+(List.replicate (m-i) (enc z)).length)).toArray):=by
    obtain⟨q,hq⟩:=Jg h0
    rw[hq]at hst⊢
    simp[Builtin.clear_,run_underlying ht,hz1,Wv _ _ (JL h1),hst]
   refine arz (W':=W.setRow g0 (cur.toList.take (i+0)++List.replicate (m-i) (enc z)++cur.toList.drop (i+0+(List.replicate (m-i) (enc z)).length)).toArray) (v:= .tuple #[]) O hw Ah (h _ (H.at j hj (F':=[g0]) ⟨?_,by simp[ids,Ec,Value.ownBlock],by simp[ids,Ec,Value.ownBlock],⟨rfl,rfl,rfl,by simp[World.setRow],fun k _ hk=>setRow_other W g0 k _ zK⟩⟩ (by simp[Ec,Value.ownBlock])))
   intro E hE
   rw[Bz.1 hE]
   refine⟨by simp;omega,.inr ⟨g0,c,_,rfl,Jh _,setRow_heap W g0 _ _ e _ hg,h4,h5,?_,?_⟩⟩
   ·simp;omega
   ·rw[GY,List.toList_toArray,Kt,EY,Kw,←h7,GY,List.map_replicate,List.take_take,Lj hi,PW Am]
end
end
end
section
section
open Go.RowKit
section
variable{P:Program}{n:Sz}{f:Nat→Value}{W w0:World}{dst:Option Tmp}{ty:TypeId}{pos:String}{af:Array Edge}{g:Option (Nat×Bool)}{x y:Operand}{t t2 e1 e2 e3:TypeId}
theorem aiv{k1 k2 k3 q1 q2 q3:IntKind}{a b c a' b' c':Int}(ht:P.underlying t=some (.struct (P.fieldsOf t)))(hp:P.stoodInHeld t=false)
 (hf : (P.fieldsOf t).toList.map (fun f => (f.name != "_", f.type, f.offset)) = [(true, e1, 0), (true, e2, 1), (true, e3, 2)]) (h1 : P.underlying e1 = some (.int q1)) (h2 : P.underlying e2 = some (.int q2)) (h3 : P.underlying e3 = some (.int q3)) (D : Nat) :
 (Op.equalIn (D+2) t (.agg [.int k1 a,.int k2 b,.int k3 c].toArray) (.agg [.int k1 a',.int k2 b',.int k3 c'].toArray)).run P W= .ok (decide (a=a'∧b=b'∧c=c')) W:=by
 rw[run_equalIn_struct W (D+1) t _ _ ht hp]
 generalize(P.fieldsOf t).toList=fs at hf
 obtain⟨f1,f2,f3,rfl⟩:∃f1 f2 f3,fs=[f1,f2,f3]:=by
  have:=congrArg List.length hf
  simp only[DL,Es,Iu]at this
  rcases fs with _|⟨f1,_|⟨f2,_|⟨f3,_|⟨f4,fs⟩⟩⟩⟩
  ·simp at this
  ·simp at this
  ·simp at this
  ·exact⟨f1,f2,f3,rfl⟩
  ·simp at this
 simp only[DJ,Ef,P5,RP,and_true,bne_iff_ne]at hf
 obtain⟨⟨n1,rfl,o1⟩,⟨n2,rfl,o2⟩,n3,rfl,o3⟩:=hf
 have p1:∀(W:World) (u v z:Value),(part f1.type [u,v,z].toArray f1.offset).run P W= .ok u W:=by
  intro W u v z;simp[part,isAgg,run_underlying h1,o1]
 have p2:∀(W:World) (u v z:Value),(part f2.type [u,v,z].toArray f2.offset).run P W= .ok v W:=by
  intro W u v z;simp[part,isAgg,run_underlying h2,o2]
 have p3:∀(W:World) (u v z:Value),(part f3.type [u,v,z].toArray f3.offset).run P W= .ok z W:=by
  intro W u v z;simp[part,isAgg,run_underlying h3,o3]
 simp only[Op.eqFields,n1,n2,n3,ne_eq,not_false_eq_true,if_true,Sem.run_bind,p1,p2,p3,Result.andThen_ok,run_equalIn_int W D f1.type k1 q1 _ _ h1]
 by_cases c1:a=a'
 ·by_cases c2:b=b'
  ·by_cases c3:c=c'
   ·simp[c1,c2,c3,Op.eqFields,p2,p3,run_equalIn_int W D f2.type k2 q2 _ _ h2,run_equalIn_int W D f3.type k3 q3 _ _ h3]
   ·simp[c1,c2,c3,Op.eqFields,p2,p3,run_equalIn_int W D f2.type k2 q2 _ _ h2,run_equalIn_int W D f3.type k3 q3 _ _ h3]
  ·simp[c1,c2,Op.eqFields,p2,run_equalIn_int W D f2.type k2 q2 _ _ h2]
 ·simp[c1]
theorem afG{k1 k2 k3 q1 q2 q3:IntKind}{a b c a' b' c':Int}(hx:ev n f x= .agg [.int k1 a,.int k2 b,.int k3 c].toArray)(hy:ev n f y= .agg [.int k1 a',.int k2 b',.int k3 c'].toArray)(ht:P.underlying t=some (.struct (P.fieldsOf t)))(hp:P.stoodInHeld t=false)(hg:P.eqGuardType P.depth t=false)
 (hf : (P.fieldsOf t).toList.map (fun f => (f.name != "_", f.type, f.offset)) = [(true, e1, 0), (true, e2, 1), (true, e3, 2)]) (h1 : P.underlying e1 = some (.int q1)) (h2 : P.underlying e2 = some (.int q2)) (h3 : P.underlying e3 = some (.int q3)) {q : Bool} (hq : decide (a = a' ∧ b = b' ∧ c = c') = q) :
 (execOp (ev n f) ⟨dst,.binOp .eql t x y t2,ty,pos,af,g⟩).run P W= .ok (.value (.bool q)) W:=by
 subst hq
 have h:=aiv (W:=W) (k1:=k1) (k2:=k2) (k3:=k3) (a:=a) (b:=b) (c:=c) (a':=a') (b':=b') (c':=c') ht hp hf h1 h2 h3 9998
 have h2:(binOp .eql t (.agg [.int k1 a,.int k2 b,.int k3 c].toArray) (.agg [.int k1 a',.int k2 b',.int k3 c'].toArray)).run P W= .ok (.bool (decide (a=a'∧b=b'∧c=c'))) W:=by
  rw[run_eql_struct,h];rfl
 have h3:=run_eqGuard_agg W .eql t x y [Value.int k1 a,.int k2 b,.int k3 c].toArray [Value.int k1 a',.int k2 b',.int k3 c'].toArray hg
 simp only[execOp,hx,hy,Sem.run_bind,h3,h2,Result.andThen_ok]
 rfl
theorem apA{k1 k2 k3 q1 q2 q3:IntKind}{a b c a' b' c':Int}(hx:ev n f x= .agg [.int k1 a,.int k2 b,.int k3 c].toArray)(hy:ev n f y= .agg [.int k1 a',.int k2 b',.int k3 c'].toArray)(ht:P.underlying t=some (.struct (P.fieldsOf t)))(hp:P.stoodInHeld t=false)(hg:P.eqGuardType P.depth t=false)
 (hf : (P.fieldsOf t).toList.map (fun f => (f.name != "_", f.type, f.offset)) = [(true, e1, 0), (true, e2, 1), (true, e3, 2)]) (h1 : P.underlying e1 = some (.int q1)) (h2 : P.underlying e2 = some (.int q2)) (h3 : P.underlying e3 = some (.int q3)) {q : Bool} (hq : decide (a = a' ∧ b = b' ∧ c = c') = !q) :
 (execOp (ev n f) ⟨dst,.binOp .neq t x y t2,ty,pos,af,g⟩).run P W= .ok (.value (.bool q)) W:=by
 have h:=aiv (W:=W) (k1:=k1) (k2:=k2) (k3:=k3) (a:=a) (b:=b) (c:=c) (a':=a') (b':=b') (c':=c') ht hp hf h1 h2 h3 9998
 have h2:(binOp .neq t (.agg [.int k1 a,.int k2 b,.int k3 c].toArray) (.agg [.int k1 a',.int k2 b',.int k3 c'].toArray)).run P W= .ok (.bool q) W:=by
  rw[run_neq_struct,h,hq];simp[Result.andThen]
 have h3:=run_eqGuard_agg W .neq t x y [Value.int k1 a,.int k2 b,.int k3 c].toArray [Value.int k1 a',.int k2 b',.int k3 c'].toArray hg
 simp only[execOp,hx,hy,Sem.run_bind,h3,h2,Result.andThen_ok]
 rfl
end
end
end
section
section
open Go.RowKit
theorem ab6{α β:Type}{lb:List ((α×β)×Bool)}{j:Nat}{p:α×β}(h:lb[j]? =some (p,true)):(mleft lb).length=(mleft (lb.set j (p,false))).length+1:=by
 have:=(OX lb j p h).length_eq;simpa using this
theorem aml{α β:Type}{lb:List ((α×β)×Bool)}{j:Nat}{p:α×β}(h:lb[j]? =some (p,true)):(lb.set j (p,false)).map (·.1)=lb.map (·.1):=by
 rw[G7]
 apply EU
 intro i
 rw[EJ]
 by_cases e:j=i
 ·subst e
  rw[if_pos rfl,Cb,h]
  have:=(BK.1 h).1
  rw[if_pos zT];rfl
 ·rw[if_neg e]
theorem ahh{α β:Type}(l:List (α×β)):(l.map fun p=>(p,true)).map (fun x:(α×β)×Bool=>x.1)=l:=by rw[Oq];exact TI l
section
variable{P:Program}{n:Sz}{f:Nat→Value}{W w0:World}{F:List Nat}{L:List FU}{dst:Option Tmp}{ty:TypeId}{pos:String}{af:Array Edge}{g:Option (Nat×Bool)}{x:Operand}{t kt e:TypeId}{α β:Type}[DecidableEq α]{C:KC P kt α}{ER:β→Value}{b:Nat}{l:List (α×β)}
theorem aeG(H:Heap w0 F L W)(j:Nat)(hj:L[j]? =some (mp C ER b l))(hx:ev n f x= .map (some b))(h:P.underlying t=some (.map kt e)):(execOp (ev n f) ⟨dst,.call ⟨.builtin .len,#[x],#[t]⟩,ty,pos,af,g⟩).run P W= .ok (.value (.int .i64 l.length)) W:=by
 obtain⟨es,clock,hb,hk⟩:=H.U1 j hj
 have h2:(Builtin.len_ #[t] ty #[.map (some b)]).run P W= .ok (.int .i64 l.length) W:=by
  have hg:(getObj b).run P W= .ok (.map es clock) W:=by simp[getObj,Sem.run,hb]
  simp[Builtin.len_,run_underlying h,hg,hk.len];rfl
 have h3: #[x].map (ev n f)= #[Value.map (some b)]:=by simp[hx]
 simp only[execOp,resolve,invoke,builtin,h3,Sem.run_bind,Sem.run_pure,Result.andThen_ok,h2]
end
end
end
section
namespace Nv
theorem JR{α:Type}(l:List α)(i j:Nat)(v z:α)(hi:i<l.length):(l.set i v).getD j z=if i=j then v else l.getD j z:=by
 simp only[List.getD,EJ]
 split
 ·subst_vars;simp[hi]
 ·rfl
theorem YQ(c:List Int)(i r:Nat)(hr:r<8):(part c i).getD r 0=c.getD (8*i+r) 0:=by
 unfold part
 simp only[List.getD]
 rw[ES hr,EW]
theorem aeg(l c:List Int)(i x:Nat)(hl:8*i+8≤l.length)(hc:8*i+8≤c.length):(GR l i (part c i)).getD x 0=if x/8=i then c.getD x 0 else l.getD x 0:=by
 have hp:(part c i).length=8:=GU hc
 unfold GR
 by_cases h1:x<8*i
 ·rw[if_neg Y]
  simp only[List.getD]
  rw[EK,Gs Am,ES h1]
 ·by_cases h2:x<8*i+8
  ·rw[if_pos Y]
   have:=YQ c i (x-8*i) Y
   rw[show 8*i+(x-8*i)=x by omega]at this
   rw[←this]
   simp only[List.getD]
   rw[Gs (by simp[hp];omega),Em Am]
   simp only[Ed]
   rw[show min (8*i) l.length=8*i by omega]
  ·rw[if_neg Y]
   simp only[List.getD]
   rw[Em (by simp[hp];omega),EW]
   simp only[Cj,Ed,hp]
   rw[show 8*i+8+(x-(min (8*i) l.length+8))=x by omega]
theorem of_same{a b:List Int}{i x:Nat}(h:same (part a i) (part b i)=true)(hx:x/8=i):a.getD x 0=b.getD x 0:=by
 have h':part a i=part b i:=of_decide_eq_true h
 have:(part a i).getD (x-8*i) 0=(part b i).getD (x-8*i) 0:=by rw[h']
 rw[YQ _ _ _ Y,YQ _ _ _ Y,show 8*i+(x-8*i)=x by omega]at this
 exact this
structure Inv (d:D) (m:Nat):Prop where
 ok:Ok d m
 cl:∀x,x<8*m→d.dirty.getD (x/8) false=false→d.last.getD x 0=d.cache.getD x 0
 pd:∀i,d.pend.getD i false=true→d.dirty.getD i false=true
theorem Inv.load(ws:List Int)(m:Nat)(h:ws.length=8*m):Inv (load ws m) m:=
 ⟨⟨h,h,by simp[Nv.load,h],by simp[Nv.load],by simp[Nv.load]⟩,fun _ _ _=>rfl,fun i hi=>by
  have:(List.replicate m false).getD i false=true:=hi
  simp only[List.getD,Ew]at this
  split at this<;>simp at this⟩
theorem Inv.killed{d:D}{m:Nat}(h:Inv d m):Inv (killed d) m:=⟨h.ok.killed,h.cl,h.pd⟩
theorem Inv.stepped{d:D}{m:Nat}(h:Inv d m):Inv (stepped d) m:=⟨h.ok.stepped,h.cl,h.pd⟩
theorem Inv.put{d:D}{m:Nat}(h:Inv d m){a:Nat}(ha:a<8*m)(v:Int):Inv (put d a v) m:=by
 have hd:=h.ok.hd
 have hc:=h.ok.hc
 refine⟨h.ok.put a v,fun x hx hdx=>?_,fun i hi=>?_⟩
 ·have e:(d.dirty.set (a/8) true).getD (x/8) false=false:=hdx
  rw[JR _ _ _ _ _ Y]at e
  split at e
  ·cases e
  ·show d.last.getD x 0=(d.cache.set a v).getD x 0
   rw[JR _ _ _ _ _ Y,if_neg (by rintro rfl;exact absurd rfl ‹_›)]
   exact h.cl x hx e
 ·show(d.dirty.set (a/8) true).getD i false=true
  rw[JR _ _ _ _ _ Y]
  split
  ·rfl
  ·exact h.pd i hi
theorem Inv.flushed{d:D}{m:Nat}(h:Inv d m){i:Nat}(hi:i<m)(hd:d.dirty.getD i false=true):Inv (flushed d i) m:=by
 have hp:=h.ok.hp
 refine⟨h.ok.flushed hi,h.cl,fun j hj=>?_⟩
 have e:(d.pend.set i true).getD j false=true:=hj
 rw[JR _ _ _ _ _ Y]at e
 split at e
 ·subst_vars;exact hd
 ·exact h.pd j e
theorem Inv.ED{d:D}{m:Nat}(h:Inv d m){i:Nat}(hi:i<m):Inv (ED d i) m:=by
 have hd:=h.ok.hd
 have hp:=h.ok.hp
 have hl:=h.ok.hl
 have hf:=h.ok.hf
 have ho:=h.ok.ED hi
 unfold Nv.ED at ho⊢
 split
 ·rename_i hpi
  rw[if_pos hpi]at ho
  refine⟨ho,fun x hx hdx=>?_,fun j hj=>?_⟩
  ·have e:(d.dirty.set i (!same (part d.fl i) (part d.cache i))).getD (x/8) false=false:=hdx
   show(GR d.last i (part d.fl i)).getD x 0=d.cache.getD x 0
   rw[aeg _ _ _ _ Y Y]
   rw[JR _ _ _ _ _ Y]at e
   by_cases hxi:x/8=i
   ·rw[if_pos hxi.symm]at e
    rw[if_pos hxi]
    exact of_same (by simpa using e) hxi
   ·rw[if_neg (fun h=>hxi h.symm)]at e
    rw[if_neg hxi]
    exact h.cl x hx e
  ·have e:(d.pend.set i false).getD j false=true:=hj
   rw[JR _ _ _ _ _ Y]at e
   split at e
   ·cases e
   ·show(d.dirty.set i _).getD j false=true
    rw[JR _ _ _ _ _ Y,if_neg ‹_›]
    exact h.pd j e
 ·exact h
theorem Inv.FW{d:D}{m:Nat}(h:Inv d m):∀k,k≤m→Inv (FW d k) m
 |0,_=>h
 |k+1,hk=>(Inv.FW h k Y).ED Y
theorem Inv.store{d:D}{m:Nat}(h:Inv d m)(a v:Int):Inv (store d m a v).1 m:=by
 unfold Nv.store;split
 ·split
  ·exact h.killed
  ·exact h.stepped.put Y _
 ·exact h
theorem Inv.flush{d:D}{m:Nat}(h:Inv d m)(l:Int):Inv (flush d m l).1 m:=by
 unfold Nv.flush;split
 ·split
  ·exact h.killed
  ·show Inv (if _ then _ else _) m
   split
   ·exact h.stepped.flushed Y ‹_›
   ·exact h.stepped
 ·exact h
theorem Inv.fence{d:D}{m:Nat}(h:Inv d m):Inv (fence d m).1 m:=by
 unfold Nv.fence;split
 ·exact h.killed
 ·exact h.stepped.FW m (BF _)
theorem Inv.D8{m:Nat}:∀(k i:Nat) (d:D),Inv d m→Inv (D8 d m i k).1 m
 |0,_,_,h=>h
 |k+1,i,d,h=>by
  unfold Nv.D8;split
  ·exact Inv.D8 k _ _ (h.flush _)
  ·exact h.flush _
theorem Inv.persist{d:D}{m:Nat}(h:Inv d m)(a n:Int):Inv (persist d m a n).1 m:=by
 unfold Nv.persist;split
 ·exact h
 ·split
  ·exact h.fence
  ·split
   ·exact(Inv.D8 _ _ _ h).fence
   ·exact Inv.D8 _ _ _ h
def Fd(d:D)(j:Nat):Prop:=d.dirty.getD j false=true→d.pend.getD j false=true∧part d.fl j=part d.cache j
theorem aeo(l p:List Int)(i:Nat)(hl:8*i+8≤l.length)(hp:p.length=8):part (GR l i p) i=p:=by
 unfold part GR
 rw[EK,PL Am,Un Am,Ey,Py Y,Fp Y]
theorem Zy(l p:List Int)(i j:Nat)(hl:8*i+8≤l.length)(hp:p.length=8)(hij:i≠j):part (GR l i p) j=part l j:=by
 unfold part GR
 apply EU
 intro r
 by_cases hr:r<8
 ·rw[ES hr,ES hr,EW,EW]
  by_cases h:j<i
  ·rw[EK,Gs Am,ES Y]
  ·rw[Em Am,EW]
   simp only[Cj,Ed,hp]
   congr 1;omega
 ·rw[DX Am,DX Am]
theorem Fd.Zl{d:D}{m:Nat}(ho:Ok d m){j:Nat}{l:Int}(hne:l≠(j:Int))(h:Fd d j):Fd (flush d m l).1 j:=by
 have hp:=ho.hp
 have hf:=ho.hf
 have hc:=ho.hc
 unfold Nv.flush;split
 ·split
  ·exact h
  ·show Fd (if _ then _ else _) j
   split
   ·intro hdj
    obtain⟨h1,h2⟩:=h hdj
    refine⟨?_,?_⟩
    ·show(d.pend.set l.toNat true).getD j false=true
     rw[JR _ _ _ _ _ Y,if_neg Y];exact h1
    ·show part (GR d.fl l.toNat (part d.cache l.toNat)) j=part d.cache j
     rw[Zy _ _ _ _ Y (GU Y) Y];exact h2
   ·exact h
 ·exact h
theorem Fd.ahf{d:D}{m:Nat}(ho:Ok d m){j:Nat}(hz:(flush d m (j:Int)).2=0):Fd (flush d m (j:Int)).1 j:=by
 have hp:=ho.hp
 have hf:=ho.hf
 have hc:=ho.hc
 unfold Nv.flush at hz⊢
 split
 ·rename_i hr
  rw[if_pos hr]at hz
  split
  ·rw[if_pos ‹_›]at hz;cases hz
  ·show Fd (if _ then _ else _) j
   split
   ·intro _
    refine⟨?_,?_⟩
    ·show(d.pend.set (j:Int).toNat true).getD j false=true
     rw[JR _ _ _ _ _ Y,if_pos Y]
    ·show part (GR d.fl (j:Int).toNat (part d.cache (j:Int).toNat)) j=part d.cache j
     rw[show(j:Int).toNat=j by omega,aeo _ _ _ Y (GU Y)]
   ·intro hdj;exact absurd hdj ‹_›
 ·rw[if_neg ‹_›]at hz;cases hz
theorem Fd.Vo{m:Nat}:∀(k i:Nat) (d:D),Ok d m→∀j,j<i→Fd d j→Fd (D8 d m i k).1 j
 |0,_,_,_,_,_,h=>h
 |k+1,i,d,ho,j,hj,h=>by
  unfold Nv.D8;split
  ·exact Fd.Vo k _ _ (ho.flush _) j Y (h.Zl ho Y)
  ·exact h.Zl ho Y
theorem Fd.D8{m:Nat}:∀(k i:Nat) (d:D),Ok d m→(D8 d m i k).2=0→∀j,i≤j→j<i+k→Fd (D8 d m i k).1 j
 |0,_,_,_,_,_,_,_=>by omega
 |k+1,i,d,ho,hz,j,h1,h2=>by
  unfold Nv.D8 at hz⊢
  split
  ·rename_i h0
   rw[if_pos h0]at hz
   by_cases hij:j=i
   ·subst hij
    exact Fd.Vo k _ _ (ho.flush _) j Y (Fd.ahf ho h0)
   ·exact Fd.D8 k _ _ (ho.flush _) hz j Y Y
  ·rename_i h0
   rw[if_neg h0]at hz
   exact absurd hz h0
theorem WQ{d:D}{m:Nat}(ho:Ok d m){i j:Nat}(hi:i<m)(hij:i≠j):(ED d i).dirty.getD j false=d.dirty.getD j false:=by
 have hd:=ho.hd
 unfold Nv.ED;split
 ·show(d.dirty.set i _).getD j false=_
  rw[JR _ _ _ _ _ Y,if_neg hij]
 ·rfl
theorem Fd.adK{d:D}{m:Nat}(ho:Ok d m){i j:Nat}(hi:i<m)(hij:i≠j)(h:Fd d j):Fd (ED d i) j:=by
 have hd:=ho.hd
 have hp:=ho.hp
 unfold Nv.ED;split
 ·intro hdj
  have e:(d.dirty.set i (!same (part d.fl i) (part d.cache i))).getD j false=true:=hdj
  rw[JR _ _ _ _ _ Y,if_neg hij]at e
  obtain⟨h1,h2⟩:=h e
  refine⟨?_,h2⟩
  show(d.pend.set i false).getD j false=true
  rw[JR _ _ _ _ _ Y,if_neg hij];exact h1
 ·exact h
theorem ZE{d:D}{m:Nat}(hI:Inv d m){j:Nat}(hj:j<m)(h:Fd d j):(ED d j).dirty.getD j false=false:=by
 have hd:=hI.ok.hd
 unfold Nv.ED;split
 ·rename_i hpj
  show(d.dirty.set j _).getD j false=_
  rw[JR _ _ _ _ _ Y,if_pos rfl]
  rw[(h (hI.pd j hpj)).2];simp[same]
 ·rename_i hpj
  cases hdj:d.dirty.getD j false
  ·rfl
  ·exact absurd (h hdj).1 hpj
theorem Wu{d:D}{m:Nat}(hI:Inv d m):∀(k j:Nat),k≤m→j<m→Fd d j→(j<k→(FW d k).dirty.getD j false=false)∧(k≤j→Fd (FW d k) j)
 |0,j,_,_,h=>⟨fun h0=>Y,fun _=>h⟩
 |k+1,j,hk,hj,h=>by
  obtain⟨h1,h2⟩:=Wu hI k j Y hj h
  have hIk:=hI.FW k Y
  refine⟨fun hjk=>?_,fun hjk=>Fd.adK hIk.ok Y Y (h2 Y)⟩
  by_cases e:j=k
  ·subst e;exact ZE hIk Y (h2 (BF _))
  ·show(ED (FW d k) k).dirty.getD j false=false
   rw[WQ hIk.ok Y Y];exact h1 Y
theorem Sr{d:D}{m:Nat}(hI:Inv d m){a n:Int}(hz:(persist d m a n).2=0):∀x:Nat,a≤x→(x:Int)<a+n→x<8*m∧(persist d m a n).1.dirty.getD (x/8) false=false:=by
 intro x hx1 hx2
 unfold Nv.persist at hz⊢
 split
 ·rw[if_pos ‹_›]at hz;cases hz
 ·rename_i hr
  rw[if_neg hr]at hz
  split
  ·omega
  ·rename_i hn
   rw[if_neg hn]at hz
   refine⟨Y,?_⟩
   split
   ·rename_i h0
    rw[if_pos h0]at hz
    have hI2:=Inv.D8 (((a+n-1)/8).toNat+1-(a/8).toNat) (a/8).toNat d hI
    have hF:=Fd.D8 (((a+n-1)/8).toNat+1-(a/8).toNat) (a/8).toNat d hI.ok h0 (x/8) Y Y
    generalize(Nv.D8 d m (a/8).toNat (((a+n-1)/8).toNat+1-(a/8).toNat)).1=d2 at*
    unfold Nv.fence at hz⊢
    split
    ·rw[if_pos ‹_›]at hz;cases hz
    ·exact(Wu hI2.stepped m (x/8) (BF _) Y hF).1 Y
   ·rename_i h0
    rw[if_neg h0]at hz;exact absurd hz h0
theorem PN{d:D}{m:Nat}(ho:Ok d m)(cs:List Int):∀k,(Jp d (FX d.dirty m) cs k).length=8*m
 |0=>ho.hl
 |k+1=>by
  have ih:=PN ho cs k
  rw[Xm]
  split
  ·rename_i hk
   obtain⟨i,e,hi,_⟩:=PE d.dirty m k _ (Ba hk.1)
   have e2:((FX d.dirty m).getD k 0).toNat=i:=by
    simp only[List.getD,Ba hk.1,TB];omega
   rw[e2]
   unfold Nv.QN
   have hf:=ho.hf
   have hc:=ho.hc
   split
   ·split
    ·rw[Jd Y (GU Y)];exact ih
    ·exact ih
   ·split
    ·rw[Jd Y (GU Y)];exact ih
    ·exact ih
  ·exact ih
end Nv
end
section
namespace Nv
def order:List Nat:=[1,2,3,4,5,6,7,9,10,11,12,13,14,15,0,8]
def Ii(d:D)(m a:Nat)(ws:List Int):Nat→D×Int
 |0=>(d,0)
 |k+1=>if(Ii d m a ws k).2=0 then store (Ii d m a ws k).1 m ((a:Int)+(order.getD k 0:Nat)) (ws.getD (order.getD k 0) 0)else Ii d m a ws k
def wr(d:D)(m a:Nat)(ws:List Int):D×Int:=if(Ii d m a ws 16).2=0 then persist (Ii d m a ws 16).1 m a 16 else Ii d m a ws 16
theorem aaV(d:D)(m a:Nat)(ws:List Int)(j:Nat)(h:(Ii d m a ws j).2≠0):∀q,Ii d m a ws (j+q)=Ii d m a ws j
 |0=>rfl
 |q+1=>by
  have ih:=aaV d m a ws j h q
  rw[←IZ,Ii,if_neg (by rw[ih];exact h),ih]
theorem agh(d:D)(m a:Nat)(ws:List Int)(j:Nat)(hj:j≤16)(h:(Ii d m a ws j).2≠0):wr d m a ws=Ii d m a ws j:=by
 have:=aaV d m a ws j h (16-j)
 rw[show j+(16-j)=16 by omega]at this
 unfold wr
 rw[this,if_neg h]
theorem al8(d:D)(m a:Nat)(ws:List Int)(h:(Ii d m a ws 16).2=0):wr d m a ws=persist (Ii d m a ws 16).1 m a 16:=by
 unfold wr;rw[if_pos h]
theorem VO(d:D)(m a:Nat)(ws:List Int)(k:Nat)(h:(Ii d m a ws k).2=0):Ii d m a ws (k+1)=store (Ii d m a ws k).1 m ((a:Int)+(order.getD k 0:Nat)) (ws.getD (order.getD k 0) 0):=by
 rw[Ii,if_pos h]
theorem Inv.Ii{d:D}{m:Nat}(h:Inv d m)(a:Nat)(ws:List Int):∀k,Inv (Ii d m a ws k).1 m
 |0=>h
 |k+1=>by
  have ih:=Inv.Ii h a ws k
  rw[Nv.Ii]
  split
  ·exact ih.store _ _
  ·exact ih
theorem Inv.wr{d:D}{m:Nat}(h:Inv d m)(a:Nat)(ws:List Int):Inv (wr d m a ws).1 m:=by
 unfold Nv.wr
 split
 ·exact(h.Ii a ws 16).persist _ _
 ·exact h.Ii a ws 16
def cnt(k:Nat):Nat:=k-(k+7)/8
theorem aqE:∀k,k<16→k%8≠0→order.getD (cnt k) 0=k∧cnt (k+1)=cnt k+1:=by decide
theorem amu:∀k,k<16→k%8=0→cnt (k+1)=cnt k:=by decide
def Ju(d:D)(m a:Nat):Nat→D×Int
 |0=>(d,0)
 |k+1=>if(Ju d m a k).2=0 then store (Ju d m a k).1 m ((a:Int)+8*(k:Int)) 0 else Ju d m a k
def wi(d:D)(m a:Nat)(E:Int):D×Int:=
 if get d.cache a≤E∧get d.cache ((a:Int)+8)≤E then(d,0)
 else if(Ju d m a 2).2=0 then persist (Ju d m a 2).1 m a 16 else Ju d m a 2
theorem abN(d:D)(m a:Nat)(j:Nat)(h:(Ju d m a j).2≠0):∀q,Ju d m a (j+q)=Ju d m a j
 |0=>rfl
 |q+1=>by
  have ih:=abN d m a j h q
  rw[←IZ,Ju,if_neg (by rw[ih];exact h),ih]
theorem VI(d:D)(m a:Nat)(k:Nat)(h:(Ju d m a k).2=0):Ju d m a (k+1)=store (Ju d m a k).1 m ((a:Int)+8*(k:Int)) 0:=by
 rw[Ju,if_pos h]
theorem Inv.Ju{d:D}{m:Nat}(h:Inv d m)(a:Nat):∀k,Inv (Ju d m a k).1 m
 |0=>h
 |k+1=>by
  have ih:=Inv.Ju h a k
  rw[Nv.Ju]
  split
  ·exact ih.store _ _
  ·exact ih
theorem Inv.wi{d:D}{m:Nat}(h:Inv d m)(a:Nat)(E:Int):Inv (wi d m a E).1 m:=by
 unfold Nv.wi
 split
 ·exact h
 split
 ·exact(h.Ju a 2).persist _ _
 ·exact h.Ju a 2
theorem au7(d:D)(m a:Nat)(E:Int)(h:get d.cache a≤E∧get d.cache ((a:Int)+8)≤E):wi d m a E=(d,0):=by unfold wi;rw[if_pos h]
theorem afB(d:D)(m a:Nat)(E:Int)(h:¬(get d.cache a≤E∧get d.cache ((a:Int)+8)≤E))(j:Nat)(hj:j≤2)(hc:(Ju d m a j).2≠0):wi d m a E=Ju d m a j:=by
 have:=abN d m a j hc (2-j)
 rw[show j+(2-j)=2 by omega]at this
 unfold wi
 rw[if_neg h,this,if_neg hc]
theorem amJ(d:D)(m a:Nat)(E:Int)(h:¬(get d.cache a≤E∧get d.cache ((a:Int)+8)≤E))(hc:(Ju d m a 2).2=0):wi d m a E=persist (Ju d m a 2).1 m a 16:=by
 unfold wi;rw[if_neg h,if_pos hc]
def cm(d:D)(m:Nat)(E:Int)(k:Nat)(ws:List Int):D×Int:=
 if 1152921504606846976≤E then(d,26)
 else if(wi d m (64+64*(1-k)) E).2=0 then wr (wi d m (64+64*(1-k)) E).1 m (64+64*(1-k)) ws
 else wi d m (64+64*(1-k)) E
theorem Inv.cm{d:D}{m:Nat}(h:Inv d m)(E:Int)(k:Nat)(ws:List Int):Inv (cm d m E k ws).1 m:=by
 unfold Nv.cm
 split
 ·exact h
 split
 ·exact(h.wi _ E).wr _ _
 ·exact h.wi _ E
end Nv
end
section
namespace Nv
structure Live (d:D):Prop where
 ar:d.armed=false
 de:d.dead=false
theorem Live.stops{d:D}(h:Live d):stops d=false:=by unfold Nv.stops;rw[h.ar,h.de];rfl
theorem Live.stepped{d:D}(h:Live d):Live (stepped d):=⟨h.ar,h.de⟩
theorem Live.put{d:D}(h:Live d)(a:Nat)(v:Int):Live (put d a v):=⟨h.ar,h.de⟩
theorem Live.flushed{d:D}(h:Live d)(i:Nat):Live (flushed d i):=⟨h.ar,h.de⟩
theorem Live.load(ws:List Int)(m:Nat):Live (load ws m):=⟨rfl,rfl⟩
theorem WV{d:D}{m:Nat}(h:Live d){a:Nat}(ha:a<8*m)(v:Int):store d m a v=(Nv.put (Nv.stepped d) a v,0):=by
 unfold Nv.store
 rw[if_pos Y,h.stops,if_neg J,BJ]
theorem ahl{d:D}{m:Nat}(h:Live d){l:Nat}(hl:l<m):(flush d m l).2=0∧Live (flush d m l).1∧(flush d m l).1.cache=d.cache:=by
 unfold Nv.flush
 rw[if_pos Y,h.stops,if_neg J]
 refine⟨rfl,?_⟩
 show Live (if _ then _ else _)∧_
 split
 ·exact⟨h.stepped.flushed _,rfl⟩
 ·exact⟨h.stepped,rfl⟩
theorem Wy{m:Nat}:∀(k i:Nat) (d:D),Live d→i+k≤m→(D8 d m i k).2=0∧Live (D8 d m i k).1∧(D8 d m i k).1.cache=d.cache
 |0,_,_,h,_=>⟨rfl,h,rfl⟩
 |k+1,i,d,h,hk=>by
  obtain⟨h1,h2,h3⟩:=ahl h (l:=i) (m:=m) Y
  unfold Nv.D8
  rw[if_pos h1]
  obtain⟨a,b,c⟩:=Wy (m:=m) k (i+1) _ h2 Y
  exact⟨a,b,c.trans h3⟩
theorem aav{d:D}{m:Nat}(h:Live d):(fence d m).2=0∧Live (fence d m).1∧(fence d m).1.cache=d.cache:=by
 unfold Nv.fence
 rw[h.stops,if_neg J]
 obtain⟨_,h2,_,_,h5,h6⟩:=Uj (Nv.stepped d) m
 exact⟨rfl,⟨h5.trans h.ar,h6.trans h.de⟩,h2⟩
theorem Yc{d:D}{m:Nat}(h:Live d){a n:Nat}(hn:a+n≤8*m):(persist d m a n).2=0∧Live (persist d m a n).1∧(persist d m a n).1.cache=d.cache:=by
 unfold Nv.persist
 rw[if_neg Y]
 split
 ·exact aav h
 ·obtain⟨h1,h2,h3⟩:=Wy (m:=m) (((((a:Int)+n-1)/8).toNat+1-((a:Int)/8).toNat)) ((a:Int)/8).toNat d h Y
  rw[if_pos h1]
  obtain⟨a1,a2,a3⟩:=aav (m:=m) h2
  exact⟨a1,a2,a3.trans h3⟩
def WZ(d:D)(ws:List Int):Nat→D
 |0=>d
 |k+1=>Nv.put (Nv.stepped (WZ d ws k)) k (ws.getD k 0)
theorem aau{d:D}(h:Live d)(ws:List Int):∀k,Live (WZ d ws k)
 |0=>h
 |k+1=>(aau h ws k).stepped.put _ _
theorem aag{d:D}{m:Nat}(h:Inv d m)(ws:List Int):∀k,k≤8*m→Inv (WZ d ws k) m
 |0,_=>h
 |k+1,hk=>(aag h ws k Y).stepped.put Y _
theorem acT{d:D}{m:Nat}(h:Inv d m)(ws:List Int):∀k,k≤8*m→∀x,x<k→(WZ d ws k).cache.getD x 0=ws.getD x 0
 |0,_,x,hx=>by omega
 |k+1,hk,x,hx=>by
  have hI:=aag h ws k Y
  show((WZ d ws k).cache.set k (ws.getD k 0)).getD x 0=_
  rw[JR _ _ _ _ _ (by rw[hI.ok.hc];omega)]
  split
  ·rename_i e;subst e;rfl
  ·exact acT h ws k Y x Y
theorem ajS{d:D}{m:Nat}(h:Inv d m)(hl:Live d){ws:List Int}(hw:ws.length=8)(hm:1≤m):(persist (WZ d ws 8) m 0 8).2=0∧Inv (persist (WZ d ws 8) m 0 8).1 m∧(persist (WZ d ws 8) m 0 8).1.last.take 8=ws:=by
 have hI:=aag h ws 8 Y
 have hL:=aau hl ws 8
 obtain⟨h1,h2,h3⟩:=Yc (m:=m) hL (a:=0) (n:=8) Y
 have hI2:=hI.persist 0 8
 refine⟨h1,hI2,?_⟩
 have hc:=Sr hI (a:=0) (n:=8) h1
 have hlen:=hI2.ok.hl
 apply JK
 ·rw[Ed,hlen,hw];omega
 ·intro i i1 i2
  have hi:i<8:=Y
  obtain⟨c1,c2⟩:=hc i Y Y
  have e1:=hI2.cl i c1 c2
  have e2:(persist (WZ d ws 8) m 0 8).1.cache.getD i 0=ws.getD i 0:=by
   have h4:(persist (WZ d ws 8) m 0 8).1.cache=(WZ d ws 8).cache:=h3
   rw[h4,acT h ws 8 Y i hi]
  rw[Rj]
  rw[e2,BN,BN,Ba Y,Ba Y]at e1
  simpa using e1
end Nv
end
section
namespace Nv
open Im
theorem asQ{l:List Int}(h:U l)(i:Nat){v:Int}(hv:0≤v∧v≤18446744073709551615):U (l.set i v):=fun x hx=>by
 rcases DY hx with h1|h1
 ·exact h x h1
 ·rw[h1];exact hv
theorem akA{l:List Int}(h:U l)(i:Nat):U (part l i):=(h.drop _).take _
theorem acA{l p:List Int}(h:U l)(hp:U p)(i:Nat):U (GR l i p):=fun x hx=>by
 unfold GR at hx
 rcases Ci.1 hx with hx|hx
 ·rcases Ci.1 hx with hx|hx
  ·exact h.take _ x hx
  ·exact hp x hx
 ·exact h.drop _ x hx
structure Ud (d:D):Prop where
 l:U d.last
 c:U d.cache
 f:U d.fl
theorem Ud.load{ws:List Int}(h:U ws)(m:Nat):Ud (load ws m):=⟨h,h,fun x hx=>by rw[(QJ.1 hx).2];decide⟩
theorem Ud.killed{d:D}(h:Ud d):Ud (killed d):=⟨h.l,h.c,h.f⟩
theorem Ud.stepped{d:D}(h:Ud d):Ud (stepped d):=⟨h.l,h.c,h.f⟩
theorem Ud.flushed{d:D}(h:Ud d)(i:Nat):Ud (flushed d i):=⟨h.l,h.c,acA h.f (akA h.c i) i⟩
theorem Ud.ED{d:D}(h:Ud d)(i:Nat):Ud (ED d i):=by
 unfold Nv.ED
 split
 ·exact⟨acA h.l (akA h.f i) i,h.c,h.f⟩
 ·exact h
theorem Ud.FW{d:D}(h:Ud d):∀k,Ud (FW d k)
 |0=>h
 |k+1=>(Ud.FW h k).ED k
theorem Ud.store{d:D}(h:Ud d)(m:Nat)(a:Int){v:Int}(hv:0≤v∧v≤18446744073709551615):Ud (store d m a v).1:=by
 unfold Nv.store
 split
 ·split
  ·exact h.killed
  ·exact⟨h.l,asQ h.c _ hv,h.f⟩
 ·exact h
theorem Ud.flush{d:D}(h:Ud d)(m:Nat)(l:Int):Ud (flush d m l).1:=by
 unfold Nv.flush
 split
 ·split
  ·exact h.killed
  ·show Ud (if _ then _ else _)
   split
   ·exact h.stepped.flushed _
   ·exact h.stepped
 ·exact h
theorem Ud.fence{d:D}(h:Ud d)(m:Nat):Ud (fence d m).1:=by
 unfold Nv.fence
 split
 ·exact h.killed
 ·exact h.stepped.FW _
end Nv
end
section
namespace Nv
theorem getD_set_ne{α:Type}(l:List α)(i j:Nat)(v z:α)(h:i≠j):(l.set i v).getD j z=l.getD j z:=by
 simp only[List.getD,Ez h]
structure Ln (d:D) (j:Nat) (f:Nat→Int):Prop where
 cl:d.dirty.getD j false=false
 va:∀x,x/8=j→d.cache.getD x 0=f x
variable{d:D}{j m:Nat}{f:Nat→Int}
theorem Ln.killed(h:Ln d j f):Ln (killed d) j f:=⟨h.cl,h.va⟩
theorem Ln.stepped(h:Ln d j f):Ln (stepped d) j f:=⟨h.cl,h.va⟩
theorem Ln.put(h:Ln d j f)(a:Nat)(ha:a/8≠j)(v:Int):Ln (put d a v) j f:=
 ⟨(getD_set_ne _ _ _ _ _ ha).trans h.cl,fun x hx=>(getD_set_ne _ _ _ _ _ (fun e=>ha (by rw[e];exact hx))).trans (h.va x hx)⟩
theorem Ln.flushed(h:Ln d j f)(i:Nat):Ln (flushed d i) j f:=⟨h.cl,h.va⟩
theorem Ln.ED(h:Ln d j f)(hI:Inv d m)(i:Nat):Ln (ED d i) j f:=by
 unfold Nv.ED
 split
 ·rename_i hp
  have hne:i≠j:=fun e=>by
   have:=hI.pd i hp
   rw[e,h.cl]at this;cases this
  exact⟨(getD_set_ne _ _ _ _ _ hne).trans h.cl,h.va⟩
 ·exact h
theorem Ln.FW(h:Ln d j f)(hI:Inv d m):∀k,k≤m→Ln (FW d k) j f
 |0,_=>h
 |k+1,hk=>(Ln.FW h hI k Y).ED (hI.FW k Y) k
theorem Ln.store(h:Ln d j f)(m:Nat)(a:Nat)(ha:a/8≠j)(v:Int):Ln (store d m a v).1 j f:=by
 unfold Nv.store;split
 ·split
  ·exact h.killed
  ·exact h.stepped.put _ (by rw[BJ];exact ha) _
 ·exact h
theorem Ln.flush(h:Ln d j f)(m:Nat)(l:Int):Ln (flush d m l).1 j f:=by
 unfold Nv.flush;split
 ·split
  ·exact h.killed
  ·show Ln (if _ then _ else _) j f
   split
   ·exact h.stepped.flushed _
   ·exact h.stepped
 ·exact h
theorem Ln.fence(h:Ln d j f)(hI:Inv d m):Ln (fence d m).1 j f:=by
 unfold Nv.fence;split
 ·exact h.killed
 ·exact h.stepped.FW hI.stepped m (BF _)
theorem Ln.D8:∀(k i:Nat) (d:D),Ln d j f→Ln (D8 d m i k).1 j f
 |0,_,_,h=>h
 |k+1,i,d,h=>by
  unfold Nv.D8;split
  ·exact Ln.D8 k _ _ (h.flush m _)
  ·exact h.flush m _
theorem Ln.persist(h:Ln d j f)(hI:Inv d m)(a n:Int):Ln (persist d m a n).1 j f:=by
 unfold Nv.persist;split
 ·exact h
 ·split
  ·exact h.fence hI
  ·split
   ·exact(Ln.D8 _ _ _ h).fence (Inv.D8 _ _ _ hI)
   ·exact Ln.D8 _ _ _ h
theorem abP:∀k,k<16→order.getD k 0<16:=by decide
theorem Ln.Ii(h:Ln d j f)(m a:Nat)(ws:List Int)(hne:∀i,i<16→(a+i)/8≠j):∀k,k≤16→Ln (Ii d m a ws k).1 j f
 |0,_=>h
 |k+1,hk=>by
  have ih:=Ln.Ii h m a ws hne k Y
  rw[Nv.Ii]
  split
  ·rw[show(a:Int)+((order.getD k 0:Nat):Int)=((a+order.getD k 0:Nat):Int)by omega]
   exact ih.store m _ (hne _ (abP k Y)) _
  ·exact ih
theorem Ln.wr(h:Ln d j f)(hI:Inv d m)(a:Nat)(ws:List Int)(hne:∀i,i<16→(a+i)/8≠j):Ln (wr d m a ws).1 j f:=by
 unfold Nv.wr;split
 ·exact(h.Ii m a ws hne 16 (BF _)).persist (hI.Ii a ws 16) _ _
 ·exact h.Ii m a ws hne 16 (BF _)
theorem Ln.Ju(h:Ln d j f)(m a:Nat)(hne:∀i,i<16→(a+i)/8≠j):∀k,k≤2→Ln (Ju d m a k).1 j f
 |0,_=>h
 |k+1,hk=>by
  have ih:=Ln.Ju h m a hne k Y
  rw[Nv.Ju]
  split
  ·rw[show(a:Int)+8*(k:Int)=((a+8*k:Nat):Int)by omega]
   exact ih.store m _ (hne _ Y) _
  ·exact ih
theorem Ln.wi(h:Ln d j f)(hI:Inv d m)(a:Nat)(E:Int)(hne:∀i,i<16→(a+i)/8≠j):Ln (wi d m a E).1 j f:=by
 unfold Nv.wi;split
 ·exact h
 split
 ·exact(h.Ju m a hne 2 (BF _)).persist (hI.Ju a 2) _ _
 ·exact h.Ju m a hne 2 (BF _)
theorem Ln.cm(h:Ln d j f)(hI:Inv d m)(E:Int)(k:Nat)(ws:List Int)(hne:∀i,i<16→(64+64*(1-k)+i)/8≠j):Ln (cm d m E k ws).1 j f:=by
 unfold Nv.cm;split
 ·exact h
 split
 ·exact(h.wi hI _ E hne).wr (hI.wi _ E) _ _ hne
 ·exact h.wi hI _ E hne
theorem Zg(d:D)(m:Nat)(l:Int):(flush d m l).1.cache=d.cache:=by
 unfold Nv.flush;split
 ·split
  ·rfl
  ·show(if _ then _ else _:D).cache=_
   split<;>rfl
 ·rfl
theorem QM(m:Nat):∀(k i:Nat) (d:D),(D8 d m i k).1.cache=d.cache
 |0,_,_=>rfl
 |k+1,i,d=>by
  unfold Nv.D8;split
  ·rw[QM m k];exact Zg _ _ _
  ·exact Zg _ _ _
theorem Zo(d:D)(m:Nat):(fence d m).1.cache=d.cache:=by
 unfold Nv.fence;split
 ·rfl
 ·exact(Uj (Nv.stepped d) m).2.1
theorem abX(d:D)(m:Nat)(a n:Int):(persist d m a n).1.cache=d.cache:=by
 unfold Nv.persist;split
 ·rfl
 split
 ·exact Zo _ _
 split
 ·rw[Zo];exact QM _ _ _ _
 ·exact QM _ _ _ _
theorem afK{d:D}{m:Nat}{a:Nat}{v:Int}(h:(store d m a v).2=0):(store d m a v).1.cache=d.cache.set a v∧a<8*m:=by
 unfold Nv.store at h⊢
 split
 ·rename_i hr
  rw[if_pos hr]at h
  split
  ·rename_i hs;rw[if_pos hs]at h;cases h
  ·refine⟨?_,Y⟩
   show(Nv.put (Nv.stepped d) (a:Int).toNat v).cache=_
   rw[BJ];rfl
 ·rename_i hr
  rw[if_neg hr]at h;cases h
theorem abk{d:D}{m a:Nat}{ws:List Int}(hI:Inv d m):∀k,k≤16→(Ii d m a ws k).2=0→∀i,i<k→(Ii d m a ws k).1.cache.getD (a+order.getD i 0) 0=ws.getD (order.getD i 0) 0
 |0,_,_,i,hi=>by omega
 |k+1,hk,h,i,hi=>by
  have hz:(Ii d m a ws k).2=0:=by
   apply Ny
   intro hn
   rw[Nv.Ii,if_neg hn]at h
   exact hn h
  have ih:=abk hI k Y hz
  rw[VO d m a ws k hz]at h⊢
  rw[show(a:Int)+((order.getD k 0:Nat):Int)=((a+order.getD k 0:Nat):Int)by omega]at h⊢
  obtain⟨h1,h2⟩:=afK h
  rw[h1,JR _ _ _ _ _ (by rw[(hI.Ii a ws k).ok.hc];exact h2)]
  split
  ·rename_i e
   rw[show order.getD i 0=order.getD k 0 by omega]
  ·rename_i e
   exact ih i (by
    have:i≠k:=fun hik=>e (by rw[hik])
    omega)
theorem adf:∀i,i<16→∃j,j<16∧order.getD j 0=i:=by decide
theorem alI{d:D}{m a:Nat}{ws:List Int}(hI:Inv d m)(h:(wr d m a ws).2=0)(i:Nat)(hi:i<16):(wr d m a ws).1.cache.getD (a+i) 0=ws.getD i 0∧(wr d m a ws).1.dirty.getD ((a+i)/8) false=false:=by
 unfold Nv.wr at h⊢
 split
 ·rename_i hz
  rw[if_pos hz]at h
  refine⟨?_,(Sr (hI.Ii a ws 16) h (a+i) Y Y).2⟩
  rw[abX]
  obtain⟨q,hq,e⟩:=adf i hi
  rw[←e]
  exact abk hI 16 (BF _) hz q hq
 ·rename_i hz
  rw[if_neg hz]at h;exact absurd h hz
open Im
theorem Ud.D8(m:Nat):∀(k i:Nat) (d:D),Ud d→Ud (D8 d m i k).1
 |0,_,_,h=>h
 |k+1,i,d,h=>by
  unfold Nv.D8;split
  ·exact Ud.D8 m k _ _ (h.flush m _)
  ·exact h.flush m _
theorem Ud.persist{d:D}(h:Ud d)(m:Nat)(a n:Int):Ud (persist d m a n).1:=by
 unfold Nv.persist;split
 ·exact h
 ·split
  ·exact h.fence m
  ·split
   ·exact(Ud.D8 m _ _ _ h).fence m
   ·exact Ud.D8 m _ _ _ h
theorem adJ{ws:List Int}(h:U ws)(i:Nat):0≤ws.getD i 0∧ws.getD i 0≤18446744073709551615:=by
 simp only[List.getD]
 cases e:ws[i]? with
 |none=>simp
 |some v=>exact h v (BP e)
theorem Ud.Ii{d:D}(h:Ud d)(m a:Nat){ws:List Int}(hw:U ws):∀k,Ud (Ii d m a ws k).1
 |0=>h
 |k+1=>by
  have ih:=Ud.Ii h m a hw k
  rw[Nv.Ii]
  split
  ·exact ih.store m _ (adJ hw _)
  ·exact ih
theorem Ud.wr{d:D}(h:Ud d)(m a:Nat){ws:List Int}(hw:U ws):Ud (wr d m a ws).1:=by
 unfold Nv.wr;split
 ·exact(h.Ii m a hw 16).persist m _ _
 ·exact h.Ii m a hw 16
theorem Ud.Ju{d:D}(h:Ud d)(m a:Nat):∀k,Ud (Ju d m a k).1
 |0=>h
 |k+1=>by
  have ih:=Ud.Ju h m a k
  rw[Nv.Ju]
  split
  ·exact ih.store m _ ⟨Y,Y⟩
  ·exact ih
theorem Ud.wi{d:D}(h:Ud d)(m a:Nat)(E:Int):Ud (wi d m a E).1:=by
 unfold Nv.wi;split
 ·exact h
 split
 ·exact(h.Ju m a 2).persist m _ _
 ·exact h.Ju m a 2
theorem Ud.cm{d:D}(h:Ud d)(m:Nat)(E:Int)(k:Nat){ws:List Int}(hw:U ws):Ud (cm d m E k ws).1:=by
 unfold Nv.cm;split
 ·exact h
 split
 ·exact(h.wi m _ E).wr m _ hw
 ·exact h.wi m _ E
end Nv
end
section
section
open Go.RowKit
theorem Heap.afj{w0 W:World}{F:List Nat}{A L:List FU}(H:Heap w0 F (A++L) W):Heap w0 F (grp A::L) W:=by
 have e:ids (grp A::L)=ids (A++L):=by rw[Ep,EX];rfl
 refine⟨fun E hE=>?_,by rw[e];exact H.nd,by rw[e];exact H.own,H.only⟩
 rcases Dh.1 hE with rfl|h
 ·exact H.part
 ·exact H.ok E (Du _ h)
theorem Heap.acn{w0 W:World}{F:List Nat}{A L:List FU}(H:Heap w0 F (grp A::L) W):Heap w0 F (A++L) W:=by
 have e:ids (grp A::L)=ids (A++L):=by rw[Ep,EX];rfl
 refine⟨fun E hE=>?_,by rw[←e];exact H.nd,by rw[←e];exact H.own,H.only⟩
 rcases Ci.1 hE with h|h
 ·exact(H.Bl 0 rfl).1 E h
 ·exact H.ok E (DZ _ h)
end
end
section
section
open Go.Sort Go.RowKit
def aga:Go.Shelf.Ren:=⟨fun|189=>274|125=>284|257=>283|128=>299|129=>300|294=>290|295=>291|296=>292|297=>293|298=>294|299=>295|216=>296|300=>297|301=>298|328=>303|329=>304|330=>305|331=>306|332=>307|215=>308|343=>309|n=>n,fun|28=>22|3=>3|46=>179|0=>0|51=>91|53=>26|4=>4|183=>347|182=>346|131=>206|5=>5|9=>9|218=>354|222=>358|228=>360|229=>361|n=>n,fun|n=>n⟩
theorem lays189:Go.Proofs.Lays.n189 prog aga:={
 mixed:=by kernel_rfl
 f125:=func284.trans (congrArg some Aw)
 f128:=func299.trans (congrArg some Aw)
 f129:=func300.trans (congrArg some Aw)
 f189:=func274.trans (congrArg some Aw)
 f215:=func308.trans (congrArg some Aw)
 f216:=func296.trans (congrArg some Aw)
 f257:=func283.trans (congrArg some Aw)
 f294:=func290.trans (congrArg some Aw)
 f295:=func291.trans (congrArg some Aw)
 f296:=func292.trans (congrArg some Aw)
 f297:=func293.trans (congrArg some Aw)
 f298:=func294.trans (congrArg some Aw)
 f299:=func295.trans (congrArg some Aw)
 f300:=func297.trans (congrArg some Aw)
 f301:=func298.trans (congrArg some Aw)
 f328:=func303.trans (congrArg some Aw)
 f329:=func304.trans (congrArg some Aw)
 f330:=func305.trans (congrArg some Aw)
 f331:=func306.trans (congrArg some Aw)
 f332:=func307.trans (congrArg some Aw)
 f343:=func309.trans (congrArg some Aw)
 t0:=underlying0
 a0:=Tryz.isAgg0
 z0:=Tryz.sizeOf0
 v0:=Tryz.zeroValue0
 t3:=underlying3
 a3:=Tryz.isAgg3
 z3:=Tryz.sizeOf3
 v3:=Tryz.zeroValue3
 t4:=underlying4
 a4:=Tryz.isAgg4
 z4:=Tryz.sizeOf4
 v4:=Tryz.zeroValue4
 t5:=underlying5
 a5:=Tryz.isAgg5
 z5:=Tryz.sizeOf5
 v5:=Tryz.zeroValue5
 t9:=underlying9
 a9:=Tryz.isAgg9
 z9:=Tryz.sizeOf9
 v9:=Tryz.zeroValue9
 t28:=underlying22
 a28:=Tryz.isAgg22
 z28:=Tryz.sizeOf22
 v28:=Tryz.zeroValue22
 t46:=underlying179
 a46:=Tryz.isAgg179
 z46:=Tryz.sizeOf179
 v46:=Tryz.zeroValue179
 t51:=underlying91
 a51:=Tryz.isAgg91
 z51:=Tryz.sizeOf91
 v51:=Tryz.zeroValue91
 t53:=underlying26
 a53:=Tryz.isAgg26
 z53:=Tryz.sizeOf26
 v53:=Tryz.zeroValue26
 t131:=underlying206
 a131:=Tryz.isAgg206
 z131:=Tryz.sizeOf206
 v131:=Tryz.zeroValue206
 t182:=underlying346
 a182:=Tryz.isAgg346
 z182:=Tryz.sizeOf346
 v182:=Tryz.zeroValue346
 t183:=underlying347
 a183:=Tryz.isAgg347
 z183:=Tryz.sizeOf347
 v183:=Tryz.zeroValue347
 t218:=underlying354
 a218:=Tryz.isAgg354
 z218:=Tryz.sizeOf354
 v218:=Tryz.zeroValue354
 t222:=underlying358
 a222:=Tryz.isAgg358
 z222:=Tryz.sizeOf358
 v222:=Tryz.zeroValue358
 t228:=underlying360
 a228:=Tryz.isAgg360
 z228:=Tryz.sizeOf360
 v228:=Tryz.zeroValue360
 t229:=underlying361
 a229:=Tryz.isAgg361
 z229:=Tryz.sizeOf361
 v229:=Tryz.zeroValue361}
theorem aqA(blk off cap:Nat)(zs:List Int)(w:World)(hH:Holds (Value.int .i64) w blk off zs.toArray)(hblk:blk<w.heap.size)(hsz:zs.length<4611686018427387904):
 Calls prog 274 #[.slice (some ⟨blk,off,none⟩) zs.length cap] w fun e w'=>
  e= .returned (.tuple #[])∧∃n os,w'=grow (putRow (Value.int .i64) (Sort.ahead w n) blk off (zs.mergeSort fun x y=>decide (x≤y)).toArray) os:=Any.slices_Sort_int lays189 blk off cap zs w hH hblk hsz
def srt(l:List Int):List Int:=l.mergeSort fun x y=>decide (x≤y)
theorem UZ(l:List Int):(srt l).Perm l:=List.mergeSort_perm _ _
theorem adW(l:List Int):(srt l).length=l.length:=(UZ l).length_eq
theorem adt:∀{a b:List Int},a.Perm b→a.Pairwise (· ≤ ·)→b.Pairwise (· ≤ ·)→a=b
 | [],b,h,_,_=>(List.nil_perm.1 h).symm
 |x::a,[],h,_,_=>by have:=h.length_eq;simp at this
 |x::a,y::b,h,ha,hb=>by
  obtain⟨a1,a2⟩:=QI.1 ha
  obtain⟨b1,b2⟩:=QI.1 hb
  have e:x=y:=by
   have h1:x∈y::b:=h.mem_iff.1 J
   have h2:y∈x::a:=h.mem_iff.2 J
   rcases Dh.1 h1 with h1|h1
   ·exact h1
   ·rcases Dh.1 h2 with h2|h2
    ·exact h2.symm
    ·have:=a1 y h2;have:=b1 x h1;omega
  subst e
  rw[adt (List.Perm.cons_inv h) a2 b2]
theorem aaG(l:List Int):(srt l).Pairwise (· ≤ ·):=by
 have h:=List.pairwise_mergeSort (le:=fun x y:Int=>decide (x≤y)) (fun a b c h1 h2=>by simp at*;omega) (fun a b=>by simp;omega) l
 exact h.imp fun h=>by simpa using h
theorem asy{a b:List Int}(h:a.Perm b):srt a=srt b:=adt ((UZ a).trans (h.trans (UZ b).symm)) (aaG a) (aaG b)
theorem ap5(A:Option Addr)(n c:Nat)(zs:List Int)(T:TypeId)(w:World)(hE:Dj [Ec 1 (.slice A n c) n (zs.map (Value.int .i64)) T] w)(hn:n≤1000000):
 Calls prog 274 [.slice A n c].toArray w fun e w'=>e= .returned (.tuple #[])∧Heap w (ids [Ec 1 (.slice A n c) n (zs.map (Value.int .i64)) T]) [Ec 1 (.slice A n c) n ((srt zs).map (Value.int .i64)) T] w':=by
 have H:=Heap.start hE
 have ho:=H.JE 0 rfl
 have hl:zs.length=n:=by have:=ho.1;simpa using this
 rcases ho.2 with⟨hv,h0⟩|⟨g,cap,cur,hv,_,hg,hnc,hcm,hcs,htk⟩
 ·injection hv with h1 h2 h3
  subst h1;subst h2;subst h3
  have hz:zs=[]:=DU hl
  subst hz
  refine(Any.slices_Sort_int_none lays189 none 0 w).mono ?_
  rintro e w' ⟨rfl,rfl⟩
  have e0:srt []=[]:=by simp[srt]
  rw[e0]
  exact⟨rfl,H⟩
 ·injection hv with h1 h2 h3
  subst h1;subst h3
  subst hl
  have awt:cur.toList.take zs.length=zs.map (Value.int .i64):=by rw[GY]at htk;exact htk
  refine(aqA g 0 c zs w (holds_of_blockI hg awt) (OV hg) Y).mono ?_
  rintro e w' ⟨rfl,m,os,rfl⟩
  have hs:=ownsRow_sortedI (w:=w) (base:=0) (n:=m) (e:=T) (os:=os) (ss:=zs) (ts:=srt zs) (adW zs) (Jh _) hg hnc hcm hcs
  have hgr:w.grownBy (grow (putRow (Value.int .i64) (Sort.ahead w m) g 0 (srt zs).toArray) os) (some g):=grownBy_sortedI _
  refine⟨rfl,H.at 0 O (F':=[g]) ⟨?_,by simp[ids,Ec,Value.ownBlock],by simp[ids,Ec,Value.ownBlock],⟨hgr.os,hgr.tape,hgr.output,hgr.size,fun k hk hne=>hgr.block k hk (fun e=>hne (by injection e with e;rw[e];simp))⟩⟩ (by simp[Ec,Value.ownBlock])⟩
  intro E hE
  rw[Bz.1 hE]
  exact hs
end
end
section
section
abbrev TG:=Nat→List Int
def Le(S:TG)(i:Nat)(x:List Int):TG:=fun j=>if j=i then x else S j
def xsOf(F:Nat→EP):TG:=fun i=>(F i).xs
theorem SH(F:Nat→EP)(i:Nat)(r:EP):xsOf (JJ F i r)=Le (xsOf F) i r.xs:=by
 funext j;unfold xsOf JJ Le;split<;>rfl
theorem aei(S:TG)(i:Nat)(x:List Int):Le S i x i=x:=by unfold Le;rw[if_pos rfl]
theorem KN(S:TG){i j:Nat}(x:List Int)(h:j≠i):Le S i x j=S j:=by unfold Le;rw[if_neg h]
theorem ani(S:TG)(i:Nat)(x y:List Int):Le (Le S i x) i y=Le S i y:=by
 funext j;unfold Le;split<;>rfl
theorem ajp(S:TG)(i:Nat):Le S i (S i)=S:=by
 funext j;unfold Le;split
 ·rename_i e;rw[e]
 ·rfl
def isC(k:Int):Bool:=decide (0≤k∧k<32)
def isM(m:Int):Bool:=decide (0≤m∧m<4)
def cls(S:TG)(k:Nat):List Int:=S (k*5)++S (k*5+1)++S (k*5+2)++S (k*5+3)++S (k*5+4)
def akc(S:TG)(k a:Int):Bool:=isC k&&decide (a∈cls S k.toNat)
def afr(S:TG)(k a:Int):TG×Int:=
 if isC k=false then(S,1)else if akc S k a=true then(S,41)else(Le S (k.toNat*5) (S (k.toNat*5)++ [a]),0)
def LY(S:TG)(m k:Nat):TG:=
 if S (k*5+1+m)=[]then Le (Le S (k*5) ((S (k*5)).take ((S (k*5)).length-4))) (k*5+1+m) ((S (k*5)).drop ((S (k*5)).length-4))else S
def Zr(S:TG)(m k:Int):TG×Int×Int:=
 if isM m=false∨isC k=false then(S,0,1)
 else if LY S m.toNat k.toNat (k.toNat*5+1+m.toNat)=[]then(LY S m.toNat k.toNat,0,4)
 else(Le (LY S m.toNat k.toNat) (k.toNat*5+1+m.toNat) ((LY S m.toNat k.toNat (k.toNat*5+1+m.toNat)).take ((LY S m.toNat k.toNat (k.toNat*5+1+m.toNat)).length-1)),(LY S m.toNat k.toNat (k.toNat*5+1+m.toNat)).getD ((LY S m.toNat k.toNat (k.toNat*5+1+m.toNat)).length-1) 0,0)
def gone(f t x:Int):Bool:=decide (f≤x∧x<t)
def stay(f t:Int)(l:List Int):List Int:=l.filter fun x=> !gone f t x
def MN(S:TG)(k:Nat)(f t:Int)(K:Nat):TG:=fun i=>if i/5=k∧i%5<K then stay f t (S i)else S i
def V6(S:TG)(k f t:Int):TG×Int:=
 if isC k=false then(S,0)else(MN S k.toNat f t 5,((cls S k.toNat).length:Int)-(cls (MN S k.toNat f t 5) k.toNat).length)
def Zn(S:TG)(k:Int):List Int:=if isC k=true then srt (cls S k.toNat)else []
theorem agF(S:TG)(k:Nat)(f t:Int):MN S k f t 0=S:=by funext i;unfold MN;rw[if_neg Y]
theorem abm(S:TG)(k:Nat)(f t:Int)(K:Nat)(hK:K<5):MN S k f t (K+1)=Le (MN S k f t K) (k*5+K) (stay f t (S (k*5+K))):=by
 funext i
 unfold MN Le
 by_cases e:i=k*5+K
 ·subst e
  rw[if_pos Y,if_pos rfl]
 ·rw[if_neg e]
  show _=if i/5=k∧i%5<K then stay f t (S i)else S i
  by_cases h:i/5=k∧i%5<K
  ·rw[if_pos h,if_pos Y]
  ·rw[if_neg h,if_neg Y]
theorem akp(S:TG)(k:Nat)(f t:Int)(K j:Nat)(hj:K≤j∧j<5):MN S k f t K (k*5+j)=S (k*5+j):=by unfold MN;rw[if_neg Y]
end
end
section
section
theorem Z8(S:TG)(k:Nat)(z:Int):(cls S k).count z=(S (k*5)).count z+(S (k*5+1)).count z+(S (k*5+2)).count z+(S (k*5+3)).count z+(S (k*5+4)).count z:=by
 simp[cls,Mc];omega
theorem NJ(S:TG)(i:Nat)(x:List Int)(j:Nat)(z:Int):(Le S i x j).count z=if j=i then x.count z else(S j).count z:=by unfold Le;split<;>rfl
theorem VW{S:TG}{j k:Nat}{x:List Int}(h:j/5≠k):cls (Le S j x) k=cls S k:=by
 unfold cls
 rw[KN _ _ Y,KN _ _ Y,KN _ _ Y,KN _ _ Y,KN _ _ Y]
theorem abA{a b:List Int}(h:∀z,a.count z=b.count z):a.Perm b:=List.perm_iff_count.2 h
theorem abY(l:List Int)(n:Nat)(z:Int):(l.take n).count z+(l.drop n).count z=l.count z:=by rw[←Mc,JV]
theorem ajM{m:Nat}(h:m<4):m=0∨m=1∨m=2∨m=3:=Y
theorem Zj(S:TG)(m k:Nat)(hm:m<4)(x:List Int)(z:Int):(cls (Le S (k*5+1+m) x) k).count z+(S (k*5+1+m)).count z=(cls S k).count z+x.count z:=by
 rw[Z8,Z8]
 rw[NJ,NJ,NJ,NJ,NJ]
 rcases ajM hm with rfl|rfl|rfl|rfl
 ·rw[if_neg Y,if_pos Y,if_neg Y,if_neg Y,if_neg Y]
  simp only[Kt];omega
 ·rw[if_neg Y,if_neg Y,if_pos Y,if_neg Y,if_neg Y]
  rw[show k*5+1+1=k*5+2 by omega];omega
 ·rw[if_neg Y,if_neg Y,if_neg Y,if_pos Y,if_neg Y]
  rw[show k*5+1+2=k*5+3 by omega];omega
 ·rw[if_neg Y,if_neg Y,if_neg Y,if_neg Y,if_pos Y]
  rw[show k*5+1+3=k*5+4 by omega];omega
theorem XU(S:TG)(k:Nat)(x:List Int)(z:Int):(cls (Le S (k*5) x) k).count z+(S (k*5)).count z=(cls S k).count z+x.count z:=by
 rw[Z8,Z8]
 rw[NJ,NJ,NJ,NJ,NJ,if_pos rfl,if_neg Y,if_neg Y,if_neg Y,if_neg Y]
 omega
theorem agQ(S:TG)(k:Nat)(a:Int):(cls (Le S (k*5) (S (k*5)++ [a])) k).Perm (cls S k++ [a]):=abA fun z=>by
 have h:=XU S k (S (k*5)++ [a]) z
 rw[Mc]at h⊢
 omega
theorem ahd(S:TG)(m k:Nat)(hm:m<4):(cls (LY S m k) k).Perm (cls S k):=abA fun z=>by
 unfold LY
 split
 ·rename_i h
  have h1:=abY (S (k*5)) ((S (k*5)).length-4) z
  have h2:(S (k*5+1+m)).count z=0:=by rw[h];rfl
  have h3:=Zj (Le S (k*5) ((S (k*5)).take ((S (k*5)).length-4))) m k hm ((S (k*5)).drop ((S (k*5)).length-4)) z
  have h4:=XU S k ((S (k*5)).take ((S (k*5)).length-4)) z
  rw[KN _ _ (show k*5+1+m≠k*5 by omega)]at h3
  omega
 ·rfl
theorem agz(S:TG)(k:Nat)(f t:Int):cls (MN S k f t 5) k=stay f t (cls S k):=by
 have h:∀j,j<5→MN S k f t 5 (k*5+j)=stay f t (S (k*5+j)):=fun j hj=>by unfold MN;rw[if_pos ⟨Y,Y⟩]
 have h0:=h 0 Y
 simp only[Kt]at h0
 unfold cls
 rw[h0,h 1 Y,h 2 Y,h 3 Y,h 4 Y]
 simp[stay,List.filter_append]
theorem agl(S:TG)(k j:Nat)(f t:Int)(h:j≠k):cls (MN S k f t 5) j=cls S j:=by
 unfold cls MN
 rw[if_neg Y,if_neg Y,if_neg Y,if_neg Y,if_neg Y]
theorem aiX(l:List Int)(h:l≠[]):l=l.take (l.length-1)++ [l.getD (l.length-1) 0]:=by
 have hl:0<l.length:=Hg.2 h
 obtain⟨x,hx⟩:∃x,l[l.length-1]? =some x:=⟨_,Ba Y⟩
 rw[BN,hx]
 have:=JV (l.length-1) l
 rw[J4 Y]at this
 rw[Ba Y]at hx
 injection hx with hx
 rw[show l.length-1+1=l.length by omega,O7,hx]at this
 exact this.symm
end
end
section
section
theorem Za {P : Program} {k e0 e1 : TypeId} {q0 q1 : IntKind} (hu : P.underlying k = some (.struct (P.fieldsOf k))) (hf : (P.fieldsOf k).toList.map (fun f => (f.name != "_", f.type, f.offset)) = [(true, e0, 0), (true, e1, 1)]) (h0 : P.underlying e0 = some (.int q0)) (h1 : P.underlying e1 = some (.int q1))
 (hc:P.cellsOf k=2) (c0:P.cellsOf e0=1) (c1:P.cellsOf e1=1) (hkt:P.keyType k=true) (hsz:∃m,P.types.size=m+1) {a b:Int} (wa:(Lit.int q0 a).wf=true) (wb:(Lit.int q1 b).wf=true):
 ∃l,keyOf P k (.agg [.int q0 a,.int q1 b].toArray)=some l:=by
 obtain⟨m,hm⟩:=hsz
 unfold keyOf
 generalize P.fieldsOf k=fs at hu hf
 simp only[hu]
 rw[if_pos (by simp[hkt,Value.formed,hu,hc]),hm]
 obtain⟨l⟩:=fs
 simp only at hf
 obtain⟨f1,f2,rfl⟩:∃f1 f2,l=[f1,f2]:=by
  have:=congrArg List.length hf
  simp only[DL,Es,Iu]at this
  rcases l with _|⟨f1,_|⟨f2,_|⟨f3,l⟩⟩⟩
  ·simp at this
  ·simp at this
  ·exact⟨f1,f2,rfl⟩
  ·simp at this
 simp only[DJ,Ef,P5,RP,and_true,bne_iff_ne]at hf
 obtain⟨⟨n1,rfl,o1⟩,n2,rfl,o2⟩:=hf
 unfold Program.keyLits
 simp only[hu,Value.cells]
 rw[if_pos ⟨by rw[hc];rfl,by simp[n1,n2]⟩]
 simp[List.mapM_cons,o1,o2,c0,c1,Program.keyLits,h0,h1,wa,wb]
theorem afJ{k0 k1:IntKind}{a b:Int×Int}(h:Value.agg [.int k0 a.1,.int k1 a.2].toArray=Value.agg [.int k0 b.1,.int k1 b.2].toArray):a=b:=by
 obtain⟨a1,a2⟩:=a
 obtain⟨b1,b2⟩:=b
 simp at h
 simp[h.1,h.2]
end
end
section
section
open Go.RowKit
end
end
section
section
open Go.RowKit
abbrev Q7(p:Nat):Value:= .pointer (some ⟨p,0,none⟩)
theorem avb:laidOutB prog=true:=by kernel_rfl
theorem aqS:Go.Maps.Keyed prog 324:=Go.Maps.Keyed.of_law (deep_law_laid avb (m:=2) Y (of_decide_eq_true Aw) Aw (by rw[underlying324]))
def wf64(a:Int):Prop:= -9223372036854775808≤a∧a≤9223372036854775807
def kF:KC prog 324 (Int×Int):=
 ⟨fun a=> .agg [.int .i64 a.1,.int .i64 a.2].toArray,fun a=>wf64 a.1∧wf64 a.2,aqS,fun a ha=>Za Aw Aw underlying3 underlying3 Aw Aw Aw Aw ⟨prog.types.size-1,by kernel_rfl⟩ (wf_i64 ha.1) (wf_i64 ha.2),fun a b=>afJ⟩
abbrev Vf:=List ((Int×Int)×EP)
def ZG(G:Nat→EP)(b:Nat):List Value:=fnC 33 fun i=>if i=32 then .map (some b)else(G (i*5)).v
def ZK(p b:Nat)(G F:Nat→EP)(l:Vf):List FU:=[blk p (ZG G b) 314,mp kF EP.v b l,Yt 3 160 F]
theorem Jm{G:Nat→EP}{b k:Nat}(hk:k<32):(ZG G b)[k]? =some (.slice (G (k*5)).A (G (k*5)).n (G (k*5)).c):=by
 unfold ZG;rw[aiL Y,if_neg Y];rfl
theorem G6(G:Nat→EP)(b:Nat):(ZG G b)[32]? =some (.map (some b)):=by
 unfold ZG;rw[aiL Y,if_pos rfl]
theorem Yg{G:Nat→EP}{b k:Nat}{r:EP}(hk:k<32):(ZG G b).set k (.slice r.A r.n r.c)=ZG (JJ G (k*5) r) b:=by
 unfold ZG
 rw[anD]
 refine Vz fun i hi=>?_
 unfold JJ
 by_cases e:i=k
 ·subst e;rw[if_pos rfl,if_neg Y,if_pos rfl];rfl
 ·rw[if_neg e]
  by_cases e2:i=32
  ·rw[if_pos e2,if_pos e2]
  ·rw[if_neg e2,if_neg e2,if_neg Y]
structure ML (F:Nat→EP) (l:Vf) (N:Nat):Prop where
 keys:∀x∈l,0≤x.1.1∧x.1.1<4∧0≤x.1.2∧x.1.2<32
 got:∀m k:Nat,m<4→k<32→FZ l ((m:Int),(k:Int))=some (F (k*5+1+m))∨FZ l ((m:Int),(k:Int))=none∧F (k*5+1+m)=EP.nil
 len:∀i,i<160→(F i).n≤N
theorem abK(k:Int)(w:World):Calls prog 197 [.int .i64 k].toArray w fun e w'=>e= .returned (.bool (isC k))∧Only [] w w':=by
 have H:=Heap.nil w
 unfold isC
 by_cases h1:0≤k
 ·by_cases h2:k<32
  ·rw[decide_eq_true ⟨h1,h2⟩]
   refine BO 9 func197 O (rF ?_)
   refine mF ?_
   refine Bo 5 O (Gm O) (Bo 5 O (DI O O Y) (uh ?_))
   exact⟨rfl,H.only⟩
  ·rw[decide_eq_false (fun h=>h2 h.2)]
   refine BO 9 func197 O (rF ?_)
   refine mF ?_
   refine Bo 5 O (Gm O) (Bo 5 O (Di O O Y) (uh ?_))
   exact⟨rfl,H.only⟩
 ·rw[decide_eq_false (fun h=>h1 h.1)]
  refine BO 9 func197 O (rF ?_)
  refine AV (Fz O O Y) (BX O (Df 5 O O (Df 5 O O (DW O O (iP ?_)))))
  exact⟨rfl,H.only⟩
theorem asf(m k:Int)(w:World):Calls prog 264 [.int .i64 m,.int .i64 k].toArray w fun e w'=>e= .returned (.bool (isM m&&isC k))∧Only [] w w':=by
 have H:=Heap.nil w
 have hC:=fun W=>abK k W
 unfold isM
 by_cases h1:0≤m
 ·by_cases h2:m<4
  ·rw[decide_eq_true ⟨h1,h2⟩,Gy]
   cases hk:isC k with
   |true=>
    simp only[hk]at hC
    refine rM ?_
    rintro e W1 ⟨rfl,H'⟩
    refine⟨_,rfl,?_⟩
    have H:=H.same H';clear H'
    refine uh ?_
    exact⟨rfl,H.only⟩
   |false=>
    simp only[hk]at hC
    refine rM ?_
    rintro e W1 ⟨rfl,H'⟩
    refine⟨_,rfl,?_⟩
    have H:=H.same H';clear H'
    refine uh ?_
    exact⟨rfl,H.only⟩
  ·rw[decide_eq_false (fun h=>h2 h.2),Jc]
   refine BO 15 func264 O (rF ?_)
   refine mF ?_
   refine Bo 7 O (Gm O) (Bo 7 O (Di O O Y) (EZ O O (BX O (Df 11 O O (Df 11 O O (DW O O (iP ?_)))))))
   exact⟨rfl,H.only⟩
 ·rw[decide_eq_false (fun h=>h1 h.1),Jc]
  refine BO 15 func264 O (rF ?_)
  refine AV (Fz O O Y) (BX O (Df 7 O O (Df 7 O O (DW O O (BX O (Df 11 O O (Df 11 O O (DW O O (iP ?_)))))))))
  exact⟨rfl,H.only⟩
theorem arV(A:Option Addr)(n c:Nat)(l:List Int)(x:Int)(w:World)(hS:I5 (Value.int .i64) w [] A l)(hl:l.length=n)(hn:n≤1000000):
 Calls prog 289 [.slice A n c,.int .i64 x].toArray w fun e w'=>(∃r,e= .returned (.int .i64 r)∧(x∉l∧r= -1∨x∈l∧0≤r))∧Only [] w w':=by
 have H:=Heap.nil w
 refine BO 19 func289 O (oM ?_)
 refine sS ?_
 refine xH ?_
 refine EO (fun z f W=>∃(i:Nat),i≤n∧z=n-i∧x∉l.take i∧f 0= .slice A n c∧f 1= .int .i64 x∧f 7= .int .i64 n∧f 8= .int .i64 i∧Heap w [] [] W) n ⟨0,Y,rfl,J,rfl,rfl,rfl,rfl,H⟩ ?_
 clear H
 rintro z f W ⟨i,hi,rfl,hno,f0,f1,f7,f8,H⟩
 obtain⟨f,rfl⟩:=Jj f0 f1 f7 f8
 clear f0 f1 f7 f8
 by_cases hlt:i<n
 ·obtain⟨y,hy⟩:∃y,l[i]? =some y:=⟨_,Ba Y⟩
  obtain⟨b,o,rfl,_,hrd⟩:=hS Y
  have hc:=hrd i y hy
  by_cases e:x=y
  ·refine nR ?_
   refine AO (AP (AQ O (sV ?_)))
   refine AV (D7 O O Y) (oV ?_)
   refine AQ O (AY O (AO (kL ?_)))
   refine aK ?_
   exact⟨⟨_,rfl,.inr ⟨by rw[e];exact BP hy,Y⟩⟩,H.only⟩
  ·refine nR ?_
   refine AO (AP (AQ O (sV ?_)))
   refine AV (D5 O O Y) (AO (o8 ?_))
   refine⟨_,_,?_,rfl,i+1,Y,rfl,?_,rfl,rfl,rfl,rfl,H⟩
   ·omega
   ·rw[←KT hy];simp[hno,e]
 ·obtain rfl:i=n:=Y
  rw[show l.take i=l by rw[←hl];exact F9]at hno
  refine oh ?_
  refine eu ?_
  exact⟨⟨_,rfl,.inl ⟨hno,rfl⟩⟩,H.only⟩
theorem ajv(A:Option Addr)(n c:Nat)(l:List Int)(x:Int)(w:World)(hS:I5 (Value.int .i64) w [] A l)(hl:l.length=n)(hn:n≤1000000):
 Calls prog 282 [.slice A n c,.int .i64 x].toArray w fun e w'=>e= .returned (.bool (decide (x∈l)))∧Only [] w w':=by
 have H:=Heap.nil w
 have hI:=fun{W:World} (h:Only [] w W)=>arV A n c l x W (hS.later h J) hl hn
 by_cases hx:x∈l
 ·rw[decide_eq_true hx]
  refine BO 9 func282 O (uV ?_)
  refine AP (Dz O (AQ O (s_call O (hI H.only) (apT O) ?_)))
  rintro e W1 ⟨⟨r,rfl,hr⟩,H'⟩
  refine⟨_,rfl,?_⟩
  have H:=H.same H';clear H';have h0:0≤r:=hr.elim (fun h=>(h.1 hx).elim) (fun h=>h.2)
  refine AV (GI O O Y) (iP ?_)
  exact⟨rfl,H.only⟩
 ·rw[decide_eq_false hx]
  refine BO 9 func282 O (uV ?_)
  refine AP (Dz O (AQ O (s_call O (hI H.only) (apT O) ?_)))
  rintro e W1 ⟨⟨r,rfl,hr⟩,H'⟩
  refine⟨_,rfl,?_⟩
  have H:=H.same H';clear H';have h0:r= -1:=hr.elim (fun h=>h.2) (fun h=>(hx h.1).elim)
  refine AV (Fz O O Y) (iP ?_)
  exact⟨rfl,H.only⟩
theorem PX(A:Option Addr)(n c:Nat)(l:List Int)(w:World)(hS:I5 (Value.int .i64) w [] A l)(hl:l.length=n)(hn:n≤1000000):
 Calls prog 265 [.slice A n c].toArray w fun e w'=>∃A' c',e= .returned (.slice A' n c')∧Heap w [] [Ec 1 (.slice A' n c') n (l.map (Value.int .i64)) 3] w':=by
 have H:=Heap.nil w
 cases A with
 |none=>
  have h0:l.length=0:=by
   rcases GV l.length with h0|h0
   ·exact h0
   ·obtain⟨q,r,e0,_⟩:=hS Y;cases e0
  obtain rfl:l=[]:=DU h0
  obtain rfl:n=0:=by simpa using hl.symm
  refine BO 8 func265 O (AP (EM O (AO (A8 (AP (Dz O (AV (alP O O underlying22) (oV ?_))))))))
  refine EM O (AO (BM (Dx (CG (v:= .slice _ _ _) O O ?_))))
  exact⟨none,0,rfl,H.Kr 1 3⟩
 |some a=>
  refine BO 8 func265 O (AP (EM O (AO (A8 (AP (Dz O (AV (agq O O underlying22) (dK ?_))))))))
  refine AP (acy 1 Y H O underlying22 JH ?_)
  intro _ _ H';clear H;have H:=H';clear H'
  refine Dz O (ak1 (enc:=(Value.int .i64)) (xs:=[]) H 0 O O O O (hS) (hl) (fun _=>rfl) Y underlying22 JH O ?_)
  clear H;intro A1 c1 _ hA H;simp only[Bv,Nat.reduceAdd]at H
  refine rW ?_
  rw[EH]at H
  exact⟨A1,c1,by rw[EH],H⟩
end
end
section
section
open Go.RowKit
def Pz:Nat→EP:=fun _=>EP.nil
theorem al5:ML Pz [] 0:=⟨J,fun m k _ _=> .inr ⟨rfl,rfl⟩,fun i _=>BF _⟩
theorem Heap.ano{w0 W:World}{Fr:List Nat}{L:List FU}(H:Heap w0 Fr L W)(T:TypeId)(N:Nat):Heap w0 Fr (Yt T N Pz::L) W:=by
 have h0:ids (OU T N Pz)=[]:=by
  unfold ids OU
  rw[List.flatMap_map]
  exact List.flatMap_eq_nil_iff.2 fun i _=>rfl
 refine H.more (A:=[Yt T N Pz]) ⟨fun E hE=>?_,?_,?_,Only.refl _ _⟩
 ·rw[Bz.1 hE]
  refine⟨fun X hX=>?_,by rw[h0];simp⟩
  unfold OU at hX
  obtain⟨i,_,rfl⟩:=DN.1 hX
  exact World.ownsRow_nil W 0 T 1
 ·show(ids [Yt T N Pz]).Nodup
  rw[show ids [Yt T N Pz]=ids (OU T N Pz)++ []from rfl,h0];simp
 ·intro i hi
  rw[show ids [Yt T N Pz]=ids (OU T N Pz)++ []from rfl,h0]at hi
  simp at hi
theorem atQ(w:World):Calls prog 183 [].toArray w fun e w'=>∃p b,e= .returned (Q7 p)∧Heap w [] (ZK p b Pz Pz []) w':=by
 have H:=Heap.nil w
 refine BO 4 func183 O (AP (Fb O (AO (AP (aj2 kF EP.v H O ?_)))))
 intro b1 _ H';clear H;have H:=H';clear H'
 refine AV (FI (anm _) O) (D9 H O O fun p3 _ H=>sQ ?_)
 replace H:=H.ano 3 160
 exact⟨p3,b1,rfl,H.order [1,2,0] rfl rfl⟩
theorem aoP(S:TG)(k:Nat)(a:Int):a∈cls S k↔a∈S (k*5)∨∃m:Nat,m<4∧a∈S (k*5+1+m):=by
 unfold cls
 simp only[Ci]
 constructor
 ·rintro((((h|h)|h)|h)|h)
  ·exact .inl h
  ·exact .inr ⟨0,Y,h⟩
  ·exact .inr ⟨1,Y,h⟩
  ·exact .inr ⟨2,Y,h⟩
  ·exact .inr ⟨3,Y,h⟩
 ·rintro(h|⟨m,hm,h⟩)
  ·exact .inl (.inl (.inl (.inl h)))
  ·rcases(by omega:m=0∨m=1∨m=2∨m=3)with rfl|rfl|rfl|rfl
   ·exact .inl (.inl (.inl (.inr h)))
   ·exact .inl (.inl (.inr h))
   ·exact .inl (.inr h)
   ·exact .inr h
theorem Xn{k:Int}(h:isC k=true):∃j:Nat,k=(j:Int)∧j<32:=by
 have:=of_decide_eq_true h
 exact⟨k.toNat,Y,Y⟩
theorem aom{k:Int}(h:isM k=true):∃j:Nat,k=(j:Int)∧j<4:=by
 have:=of_decide_eq_true h
 exact⟨k.toNat,Y,Y⟩
theorem gdF{m k:Nat}(hm:m<4)(hk:k<32):kF.Gd ((m:Int),(k:Int)):=⟨⟨by show _≤(m:Int);omega,by show(m:Int)≤_;omega⟩,⟨by show _≤(k:Int);omega,by show(k:Int)≤_;omega⟩⟩
section
variable{p b N:Nat}{F:Nat→EP}{l:Vf}{w:World}
theorem awW(hE:Dj (ZK p b F F l) w)(hok:ML F l N)(hN:N≤100000)(k a:Int):
 Calls prog 271 [Q7 p,.int .i64 k,.int .i64 a].toArray w fun e w'=>e= .returned (.bool (akc (xsOf F) k a))∧Only [] w w':=by
 have HR:=Heap.start hE
 have H:=Heap.nil w
 have hC:=fun W=>abK k W
 unfold akc
 unfold ZK at HR
 cases hk:isC k with
 |false=>
  simp only[hk]at hC
  refine BO 33 func271 O (uV ?_)
  refine iQ ?_
  refine BL H O (hC _) (Uy O) fun W1 H=>AV (Ib O) (AO (EF O (mX ?_)))
  exact⟨rfl,H.only⟩
 |true=>
  simp only[hk]at hC
  obtain⟨j,rfl,hj⟩:=Xn hk
  rw[BJ,Gy]
  have hCo:=fun i (hi:i<160) {W:World} (h:Only [] w W)=>ajv (F i).A (F i).n (F i).c (F i).xs a W ((aeY HR 2 rfl hi).later h J) (MW HR 2 rfl hi) (by have:=hok.len i hi;omega)
  have hmem:=aoP (xsOf F) j a
  by_cases h0:a∈(F (j*5)).xs
  ·rw[decide_eq_true (hmem.2 (.inl h0))]
   have hC0:=fun{W:World} h=>hCo (j*5) Y (W:=W) h
   simp only[decide_eq_true h0]at hC0
   refine BO 33 func271 O (uV ?_)
   refine iQ ?_
   refine BL H O (hC _) (Uy O) fun W1 H=>eU ?_
   refine A8 (jZ ?_)
   refine AQ O (BL H O (hC0 H.only) (agj O) fun W1 H=>AO (EF O (mX ?_)))
   exact⟨rfl,H.only⟩
  ·have hC0:=fun{W:World} h=>hCo (j*5) Y (W:=W) h
   simp only[decide_eq_false h0]at hC0
   refine BO 33 func271 O (uV ?_)
   refine iQ ?_
   refine BL H O (hC _) (Uy O) fun W1 H=>eU ?_
   refine A8 (jZ ?_)
   refine AQ O (BL H O (hC0 H.only) (agj O) fun W1 H=>dK ?_)
   refine iQ ?_
   refine AO (E8 (EO (fun z f W=>∃(i:Nat),i≤4∧z=4-i∧(∀m:Nat,m<i→a∉(F (j*5+1+m)).xs)∧f 0=Q7 p∧f 1= .int .i64 j∧f 2= .int .i64 a∧f 19= .int .i64 i∧Heap w [] [] W) 4 ⟨0,Y,rfl,Y,rfl,rfl,rfl,rfl,H⟩ ?_))
   clear H
   rintro z f W ⟨i,hi,rfl,hno,f0,f1,f2,f19,H⟩
   obtain⟨f,rfl⟩:=Jj f0 f1 f2 f19
   clear f0 f1 f2 f19
   by_cases hlt:i<4
   ·have gd:=gdF hlt hj
    have hC1:=fun{W:World} h=>hCo (j*5+1+i) Y (W:=W) h
    rcases hok.got i j hlt hj with hg|⟨hg,hnil⟩
    ·by_cases h1:a∈(F (j*5+1+i)).xs
     ·rw[decide_eq_true (hmem.2 (.inr ⟨i,hlt,h1⟩))]
      simp only[decide_eq_true h1]at hC1
      refine nR ?_
      refine uj ?_
      refine nZ ?_
      refine AQ O (BL H O (hC1 H.only) (agj O) fun W1 H=>oV ?_)
      refine BH O (AO (kL ?_))
      refine dG ?_
      exact⟨rfl,H.only⟩
     ·simp only[decide_eq_false h1]at hC1
      refine nR ?_
      refine uj ?_
      refine nZ ?_
      refine AQ O (BL H O (hC1 H.only) (agj O) fun W1 H=>AO (o8 ?_))
      refine⟨_,_,?_,rfl,i+1,Y,rfl,fun m hm=>?_,rfl,rfl,rfl,rfl,H⟩
      ·omega
      ·by_cases e:m=i
       ·subst e;exact h1
       ·exact hno m Y
    ·rw[hnil]at hC1
     have h1:a∉EP.nil.xs:=by simp[EP.nil]
     simp only[decide_eq_false h1]at hC1
     refine nR ?_
     refine uj ?_
     refine jV ?_
     refine AV (akm (HR.same H.only) 1 O O O (gd) (hg) underlying311 (IY S9)) (AQ O (BL H O (hC1 H.only) (agj O) fun W1 H=>AO (o8 ?_)))
     refine⟨_,_,?_,rfl,i+1,Y,rfl,fun m hm=>?_,rfl,rfl,rfl,rfl,H⟩
     ·omega
     ·by_cases e:m=i
      ·subst e;rw[hnil];exact h1
      ·exact hno m Y
   ·obtain rfl:i=4:=Y
    rw[decide_eq_false (fun h=>(hmem.1 h).elim h0 (fun⟨m,hm,h2⟩=>hno m hm h2))]
    refine oh ?_
    refine iP ?_
    exact⟨rfl,H.only⟩
def UA(S:TG)(k:Nat):Nat→List Int
 |0=>S (k*5)
 |i+1=>UA S k i++S (k*5+1+i)
theorem adv(S:TG)(k M:Nat)(h:∀i,i<160→(S i).length≤M)(hk:k<32):∀i,i≤4→(UA S k i).length≤(i+1)*M
 |0,_=>by have:=h (k*5) Y;simp only[UA];omega
 |i+1,hi=>by
  have h1:=adv S k M h hk i Y
  have h2:=h (k*5+1+i) Y
  simp only[UA,Cj]
  rw[show(i+1+1)*M=(i+1)*M+M by rw[Nat.add_mul (i+1) 1 M,Nat.one_mul]]
  omega
theorem avd(hE:Dj (ZK p b F F l) w)(hok:ML F l N)(hN:N≤100000)(k:Int):
 Calls prog 301 [Q7 p,.int .i64 k].toArray w fun e w'=>∃A' c',e= .returned (.slice A' (Zn (xsOf F) k).length c')∧Heap w [] [Ec 1 (.slice A' (Zn (xsOf F) k).length c') (Zn (xsOf F) k).length ((Zn (xsOf F) k).map (Value.int .i64)) 3] w':=by
 have HR:=Heap.start hE
 have H:=Heap.nil w
 have hC:=fun W=>abK k W
 unfold Zn
 unfold ZK at HR
 cases hk:isC k with
 |false=>
  simp only[hk]at hC
  refine BO 34 func301 O (AP (EM O (AO (iQ ?_))))
  refine BL H O (hC _) (Uy O) fun W1 H=>AV (Ib O) (oV ?_)
  refine EM O (AO (BM (Dx (CG (v:= .slice _ _ _) O O ?_))))
  exact⟨none,0,rfl,H.Kr 1 3⟩
 |true=>
  simp only[hk]at hC
  obtain⟨j,rfl,hj⟩:=Xn hk
  rw[BJ,if_pos rfl]
  have hSe:=fun i (hi:i<160) {W:World} (h:Only [] w W)=>(aeY HR 2 rfl hi).later h J
  have hLe:=fun i (hi:i<160)=>MW HR 2 rfl hi
  have hNi:=hok.len
  have hlen0:=adv (xsOf F) j N (fun i hi=>by have:=hLe i hi;have:=hNi i hi;show(F i).xs.length≤N;omega) hj
  have hlen:∀i,i≤4→(UA (xsOf F) j i).length≤5*N:=fun i hi=>FC (hlen0 i hi) (MK _ Y)
  have hCl:=fun{W:World} (h:Only [] w W)=>PX (F (j*5)).A (F (j*5)).n (F (j*5)).c (F (j*5)).xs W (hSe (j*5) Y h) (hLe (j*5) Y) (by have:=hNi (j*5) Y;omega)
  have e0:=hLe (j*5) Y
  refine BO 34 func301 O (AP (EM O (AO (iQ ?_))))
  refine BL H O (hC _) (Uy O) fun W1 H=>eU ?_
  refine jZ ?_
  refine s_call O (hCl H.only) (UC O) ?_
  rintro e W1 ⟨A1,c1,rfl,H'⟩
  refine⟨_,rfl,?_⟩
  have H:=H.more H';clear H';simp only[Bv]at H
  refine EM O (AO (iQ ?_))
  refine AO (E8 (EO (fun z f W=>∃(i:Nat) (A':Option Addr) (n' c':Nat),i≤4∧z=4-i∧n'=(UA (xsOf F) j i).length∧f 0=Q7 p∧f 1= .int .i64 j∧f 5= .slice A' n' c'∧f 17= .int .i64 i∧Heap w [] [Ec 1 (.slice A' n' c') n' ((UA (xsOf F) j i).map (Value.int .i64)) 3] W) 4 ⟨0,A1,_,c1,Y,rfl,e0.symm,rfl,rfl,rfl,rfl,H⟩ ?_))
  clear H
  rintro z f W ⟨i,A',n',c',hi,rfl,hn',f0,f1,f5,f17,H⟩
  have hli:=hlen i hi
  obtain⟨f,rfl⟩:=Jj f0 f1 f5 f17
  clear f0 f1 f5 f17
  by_cases hlt:i<4
  ·have gd:=gdF hlt hj
   have axQ:=hlen (i+1) Y
   have e1:UA (xsOf F) j (i+1)=UA (xsOf F) j i++(F (j*5+1+i)).xs:=rfl
   have e2:=hLe (j*5+1+i) Y
   have axI:=hNi (j*5+1+i) Y
   rcases hok.got i j hlt hj with hg|⟨hg,hnil⟩
   ·have hS1:=fun{W:World} h=>hSe (j*5+1+i) Y (W:=W) h
    refine nR ?_
    refine AO (DF (Dz O (Bg O (BU O (nZ ?_)))))
    refine NK (enc:=(Value.int .i64)) H 0 O O O O ((hS1 H.only)) (e2) (fun _=>rfl) Y underlying22 JH O ?_
    clear H;intro A2 c2 _ H;simp only[Bv,Nat.reduceAdd]at H
    refine EM O (AZ (aS ?_))
    rw[←e1]at H
    refine⟨_,_,?_,rfl,i+1,A2,_,c2,Y,rfl,?_,rfl,rfl,rfl,rfl,H⟩
    ·omega
    ·rw[e1,Cj,e2,hn']
   ·rw[hnil]at e1
    refine nR ?_
    refine AO (DF (Dz O (Bg O (BU O (jV ?_)))))
    refine AV (akm (HR.same H.only) 1 O O O (gd) (hg) underlying311 (IY S9)) (NK (enc:=(Value.int .i64)) H 0 O O O O ((I5.nil (enc:=Value.int .i64))) (O) (fun _=>rfl) Y underlying22 JH O ?_)
    clear H;intro A2 c2 _ H;simp only[Bv,Nat.reduceAdd]at H
    refine EM O (AZ (aS ?_))
    rw[show UA (xsOf F) j i=UA (xsOf F) j (i+1)from(e1.trans (Dl _)).symm]at H
    refine⟨_,_,?_,rfl,i+1,A2,_,c2,Y,rfl,?_,rfl,rfl,rfl,rfl,H⟩
    ·omega
    ·rw[e1,Cj,hn'];rfl
  ·obtain rfl:i=4:=Y
   have hS:=fun{W:World} hE=>ap5 A' n' c' (UA (xsOf F) j 4) 3 W hE Y
   have e4:(srt (cls (xsOf F) j)).length=n':=by rw[adW,hn'];rfl
   refine oh ?_
   refine Dz O (s_call O (hS (Heap.part (A:=[_]) (L:=[]) H)) (apD O) ?_)
   rintro e W1 ⟨rfl,H'⟩
   refine⟨_,rfl,?_⟩
   have H:=H.at 0 rfl H' (fun i hi=>by simpa [ids]using hi);clear H'
   refine AO (AP (Dz O (rW ?_)))
   refine⟨A',c',by rw[e4],?_⟩
   rw[e4]
   exact H
theorem atq(hE:Dj (ZK p b F F l) w)(hok:ML F l N)(hN:N≤100000)(k:Int):
 Calls prog 285 [Q7 p,.int .i64 k].toArray w fun e w'=>e= .returned (.int .i64 (Zn (xsOf F) k).length)∧Only [] w w':=by
 have HR:=Heap.start hE
 have H:=Heap.nil w
 have hL:=fun{W:World} (h:Only [] w W)=>avd (HR.same h).ents hok hN k
 refine BO 9 func285 O (oM ?_)
 refine eH ?_
 refine s_call O (hL H.only) (avi O) ?_
 rintro e W1 ⟨A1,c1,rfl,H'⟩
 refine⟨_,rfl,?_⟩
 have H:=H.same H'.only;clear H'
 refine Eb O underlying22 (eu ?_)
 exact⟨rfl,H.only⟩
end
end
end
end Go.Proofs.YtppilhpcmkekbaaGreat
