/- Parts of the proof. -/
import Derived.Shelf.Sort.Plain
import Derived.Shelf.Slices.In.SortNone
import Derived.Sort.OwnSortedInts
import Derived.DeepKeys4
import Derived.Test.YtppilhpcmkekbaaGreatKTopImagesb
import Derived.Test.YtppilhpcmkekbaaGreatKTopImagesg
set_option linter.unusedSimpArgs false
set_option linter.unusedVariables false
set_option linter.unusedSectionVars false
set_option maxRecDepth 100000
set_option maxHeartbeats 16000000
namespace Go.Proofs.YtppilhpcmkekbaaGreat
open Go.Proofs.Tryz
section
section
open Go.RowKit
theorem alm(g:Geo)(d:Nv.D)(m:Nat)(w:World)(hE:DW (Dz g d) w)(ho:Nv.Ok d m)(hg:Wi g m)(hm:m≤100000):
 Calls prog 227 [ptr g.p].toArray w fun e w'=>e= .returned (.int .i64 (Nv.fence d m).2)∧Heap w (ids (Dz g d)) (Dz g (Nv.fence d m).1) w':=by
 have H0:=Heap.start hE
 by_cases hs:Nv.stops d=true
 ·have er:Nv.fence d m=(Nv.killed d,3):=by rw[Nv.fence,if_pos hs]
  rw[er]
  generalize hF:ids (Dz g d)=F at H0⊢
  have H:=H0
  refine BM 63 func227 O (Aw (qw ?_))
  refine Aw (BF O (s_call O (abd g d _ H0.ents hs) (abn O) ?_))
  rintro e W1 ⟨rfl,H'⟩
  refine⟨_,rfl,?_⟩
  have H:=H0.whole H'
  refine AL (Jm O) (fV ?_)
  exact⟨rfl,H⟩
 ·have hs:Nv.stops d=false:=by simpa using hs
  have er:Nv.fence d m=(Nv.FZ (Nv.stepped d) m,0):=by rw[Nv.fence,if_neg (by simp[hs])]
  rw[er]
  have ho1:=ho.stepped
  generalize hF:ids (Dz g d)=F at H0⊢
  have H:=H0
  have hp1:=ho1.hp
  refine BM 63 func227 O (Aw (qw ?_))
  refine Aw (sZ ?_)
  rintro e W1 ⟨rfl,H'⟩
  refine⟨_,rfl,?_⟩
  clear H;have H:=H0.whole H';clear H';have HD:=H;unfold Dz Gt at H
  refine gK ?_
  refine AP (eY ?_)
  refine BR O adH (BD H 0 O O O RJ (Di O underlying155 (tV ?_)))
  clear H
  refine Ec (fun q f W=>∃(k:Nat),k≤m∧q=m-k∧f 0=ptr g.p∧f 11= .slice (some ⟨g.bp,0,none⟩) m g.cp∧f 12= .int .i64 m∧f 13= .int .i64 k∧Heap w F (Dz g (Nv.FZ (Nv.stepped d) k)) W) m ⟨0,Y,rfl,rfl,by rw[←hp1];rfl,by rw[←hp1];rfl,rfl,HD⟩ ?_
  clear HD
  rintro q f W ⟨k,hk,rfl,h0,h11,h12,h13,H⟩
  obtain⟨f,rfl⟩:=Ih h0 h11 h12 h13
  clear h0 h11 h12 h13
  have hok:=ho1.FZ k hk
  by_cases hlt:k<m
  ·have e:Nv.FZ (Nv.stepped d) (k+1)=Nv.EF (Nv.FZ (Nv.stepped d) k) k:=rfl
   generalize Nv.FZ (Nv.stepped d) k=x at hok H e
   have hl:=hok.hl
   have hc:=hok.hc
   have hf:=hok.hf
   have hd:=hok.hd
   have hp:=hok.hp
   have hgl:=hg.l
   have hgc:=hg.c
   have hgf:=hg.f
   by_cases hv:x.pend.getD k false=true
   ·have hv':x.pend[k]? =some true:=by rw[agJ Y];exact congrArg some hv
    have er:Nv.EF x k={x with last:=Nv.Io x.last k (Nv.part x.fl k),pend:=x.pend.set k false,dirty:=x.dirty.set k (!Nv.same (Nv.part x.fl k) (Nv.part x.cache k))}:=by rw[Nv.EF,if_pos hv]
    have es:Nv.Io x.last k (Nv.part x.fl k)=x.last.take (8*k)++((x.fl.drop (8*k)).take 8++x.last.drop (8*k+8)):=by simp[Nv.Io,Nv.part]
    have hl2:(Nv.Io x.last k (Nv.part x.fl k)).length=x.last.length:=Nv.OQ Y (Nv.Ji Y)
    have ep:((Nv.Io x.last k (Nv.part x.fl k)).drop (8*k)).take 8=Nv.part x.fl k:=by
     unfold Nv.Io
     rw[DI,List.drop_append,OH (by simp;exact Nat.min_le_left _ _),EH,show 8*k-(x.last.take (8*k)).length=0 from by simp;omega,OB,List.take_append,Ez (by rw[Nv.Ji Y];omega),Nv.Ji Y,GX,Ld,Du]
    unfold Dz Gt at H
    refine lW ?_
    refine oq ?_
    refine AL (Nq H 5 O O Ai ag4) (AQ O (BN O (Au (Aw (BL O (Au (EI O (AP (abM 14 mixed Ak H O O (um ?_))))))))))
    refine BK (fun _ H=>CB O aiZ) (mM ?_)
    refine Np O O (fun _ H=>acS g.bf g.cf k _ _ _ Y) (ajs O) (H8 ?_)
    clear H;intro _ H
    refine avs (enc:=(Value.int .u64)) H 1 3 O O O O O (fun _=>rfl) Y underlying55 Ig ?_
    clear H;refine ayJ fun _ H=>?_
    refine Au (uz ?_)
    clear H;refine ayJ fun _ H=>?_
    refine Au ?_
    rw[←es]at H
    refine abM 21 mixed Ak H O O (aP ?_)
    refine BK (fun _ H=>CB O RP) (BK (fun _ H=>Ef H 0 O O O RJ) (eG ?_))
    refine um ?_
    refine BK (fun _ H=>CB O PE) (mM ?_)
    refine Np O O (fun _ H=>acS g.bc g.cc k _ _ _ Y) (ajs O) ?_
    refine Np O O (fun _ H=>arG _ _ _ _ _ _ 8 _ _ _ (by have:=H.reads 1 O (8*k) 8;rw[ep]at this;exact this) (H.reads 2 O (8*k) 8) (Nv.Ji Y) (Nv.Ji Y) Y) (anO O) ?_
    refine BK (fun _ H=>amI O) (H8 ?_)
    clear H;intro _ H
    refine oq ?_
    refine adG (u:= .bool _) H 4 O O O O O Y (fun _=>rfl) sz4 ?_
    clear H;refine ayJ fun _ H=>?_
    refine vG ?_
    refine⟨_,_,?_,rfl,k+1,Y,rfl,rfl,rfl,rfl,rfl,?_⟩
    ·omega
    ·rw[e,er]
     unfold Dz Gt
     simp only[hl2,He]
     simpa [Nv.part]using H
   ·have hv':x.pend[k]? =some false:=by rw[agJ Y];exact congrArg some (by simpa using hv)
    have er:Nv.EF x k=x:=by rw[Nv.EF,if_neg hv]
    have H2:=H
    unfold Dz Gt at H
    refine lW ?_
    refine oq ?_
    refine AL (Nq H 5 O O Ai ag4) (AQ O (BN O (Au (Aw (BL O (Au (nM ?_)))))))
    refine⟨_,_,?_,rfl,k+1,Y,rfl,rfl,rfl,rfl,rfl,?_⟩
    ·omega
    ·rw[e,er];exact H
  ·obtain rfl:k=m:=Y
   refine uS ?_
   refine fH ?_
   exact⟨rfl,H⟩
theorem VJ(g:Geo)(d:Nv.D)(m:Nat)(a n:Int)(w:World)(hE:DW (Dz g d) w)(ho:Nv.Ok d m)(hg:Wi g m)(hm:m≤100000):
 Calls prog 163 [ptr g.p,.int .i64 a,.int .i64 n].toArray w fun e w'=>e= .returned (.int .i64 (Nv.persist d m a n).2)∧Heap w (ids (Dz g d)) (Dz g (Nv.persist d m a n).1) w':=by
 have H:=Heap.start hE
 generalize hF:ids (Dz g d)=F at H⊢
 have hc:(d.cache.length:Int)=8*(m:Int):=by have:=ho.hc;omega
 have hL:=Ze g d
 rw[hc]at hL
 unfold Nv.persist
 by_cases h1:a<0
 ·rw[if_pos (.inl h1)]
  refine BM 50 func163 O (Aw (pz ?_))
  refine Cc 11 O O (Cc 11 O O (ED O O (BL O (Cc 15 O O (Cc 15 O O (Cc 15 O O (Cc 15 O O (ED O O (BL O (lS ?_))))))))))
  exact⟨rfl,H⟩
 by_cases h2:n<0
 ·rw[if_pos (.inr (.inl h2))]
  refine BM 50 func163 O (Aw (bM ?_))
  refine AX 11 O (Fz O) (AX 11 O (Df O O Y) (Dp O O (BL O (Cc 15 O O (Cc 15 O O (Cc 15 O O (Cc 15 O O (ED O O (BL O (lS ?_))))))))))
  exact⟨rfl,H⟩
 by_cases h3:8*(m:Int)<a
 ·rw[if_pos (.inr (.inr (.inl h3)))]
  refine BM 50 func163 O (Aw (gu ?_))
  rintro e W1 ⟨rfl,H'⟩
  refine⟨_,rfl,?_⟩
  have H:=H.same H';clear H'
  refine AX 15 O (Jl O O Y) (Dp O O (BL O (lS ?_)))
  exact⟨rfl,H⟩
 by_cases h4:8*(m:Int)-a<n
 ·rw[if_pos (.inr (.inr (.inr h4)))]
  refine BM 50 func163 O (Aw (gu ?_))
  rintro e W1 ⟨rfl,H'⟩
  refine⟨_,rfl,?_⟩
  have H:=H.same H';clear H'
  refine lX ?_
  rintro e W1 ⟨rfl,H'⟩
  refine⟨_,rfl,?_⟩
  have H:=H.same H';clear H'
  refine AX 21 O (Fz O) (AX 21 O (FH O O (wI Y)) (AX 21 O (Jl O O Y) (Dp O O (fV ?_))))
  exact⟨rfl,H⟩
 rw[if_neg Y]
 by_cases h5:n=0
 ·rw[if_pos h5]
  refine BM 50 func163 O (Aw (gu ?_))
  rintro e W1 ⟨rfl,H'⟩
  refine⟨_,rfl,?_⟩
  have H:=H.same H';clear H'
  refine lX ?_
  rintro e W1 ⟨rfl,H'⟩
  refine⟨_,rfl,?_⟩
  have H:=H.same H';clear H'
  refine AX 21 O (Fz O) (AX 21 O (FH O O (wI Y)) (AX 21 O (ER O O Y) (fE ?_)))
  refine fJ ?_
  refine xU ?_
  refine BF O (s_call O (alm g d m _ H.ents ho hg hm) (aqN O) ?_)
  rintro e W1 ⟨rfl,H'⟩
  refine⟨_,rfl,?_⟩
  have H:=H.whole H';clear H'
  refine fH ?_
  exact⟨rfl,H⟩
 rw[if_neg h5]
 obtain⟨i,hi⟩:∃i:Nat,(a/8).toNat=i:=⟨_,rfl⟩
 obtain⟨q,hq⟩:∃q:Nat,((a+n-1)/8).toNat+1-(a/8).toNat=q:=⟨_,rfl⟩
 rw[hi]at hq
 rw[hi,hq]
 have hiq:(i:Int)=a/8∧((i+q:Nat):Int)=(a+n-1)/8+1:=Y
 refine BM 50 func163 O (Aw (gu ?_))
 rintro e W1 ⟨rfl,H'⟩
 refine⟨_,rfl,?_⟩
 have H:=H.same H';clear H'
 refine lX ?_
 rintro e W1 ⟨rfl,H'⟩
 refine⟨_,rfl,?_⟩
 have H:=H.same H';clear H'
 refine AX 21 O (Fz O) (AX 21 O (FH O O (wI Y)) (AX 21 O (ER O O Y) (fE ?_)))
 refine fJ ?_
 refine AL (Jl O O Y) (ql ?_)
 refine Az O (AL (Rf O O Y (wI Y)) (AQ O (Au (E8 ?_))))
 refine Ec (fun z f W=>∃(j:Nat) (x:Nv.D),j≤q∧z=q-j∧Nv.Ok x m∧Nv.Ed d m i q=Nv.Ed x m (i+j) (q-j)∧f 0=ptr g.p∧f 1= .int .i64 a∧f 2= .int .i64 n∧f 7= .int .i64 (i+j:Nat)∧Heap w F (Dz g x) W) q ⟨0,d,Y,rfl,ho,rfl,rfl,rfl,rfl,by rw[KF,hiq.1];rfl,H⟩ ?_
 clear H
 rintro z f W ⟨j,x,hj,rfl,hx,hfl,h0,h1',h2',h7,H⟩
 obtain⟨f,rfl⟩:=Ih h0 h1' h2' h7
 clear h0 h1' h2' h7
 by_cases hlt:j<q
 ·obtain⟨r,hr⟩:∃r,q-j=r+1:=⟨q-j-1,Y⟩
  rw[hr,Nv.Ed]at hfl
  by_cases he:(Nv.flush x m ((i+j:Nat):Int)).2=0
  ·rw[if_pos he]at hfl
   have hF2:=anH g x m ((i+j:Nat):Int) W H.ents hx hg hm
   rw[he]at hF2
   refine xZ ?_
   rintro e W1 ⟨rfl,H'⟩
   refine⟨_,rfl,?_⟩
   have H:=H.whole H';clear H'
   refine mW ?_
   refine jy ?_
   refine⟨_,_,?_,rfl,j+1,_,Y,rfl,hx.flush _,?_,rfl,rfl,rfl,rfl,H⟩
   ·omega
   ·rw[hfl,show q-(j+1)=r from by omega];rfl
  ·rw[if_neg he]at hfl
   have hF2:=anH g x m ((i+j:Nat):Int) W H.ents hx hg hm
   have er:Nv.Ed d m i q=Nv.flush x m ((i+j:Nat):Int):=hfl
   rw[er,if_neg he]
   refine xZ ?_
   rintro e W1 ⟨rfl,H'⟩
   refine⟨_,rfl,?_⟩
   have H:=H.whole H';clear H'
   refine jQ ?_
   exact⟨rfl,H⟩
 ·obtain rfl:j=q:=Y
  rw[GX,Nv.Ed]at hfl
  rw[hfl,if_pos rfl]
  refine rY ?_
  refine AL (aa3 O O Y) (Au (dw ?_))
  refine Aw (BF O (s_call O (alm g x m _ H.ents hx hg hm) (aqN O) ?_))
  rintro e W1 ⟨rfl,H'⟩
  refine⟨_,rfl,?_⟩
  have H:=H.whole H';clear H'
  refine fH ?_
  exact⟨rfl,H⟩
end
end
section
section
open Go.RowKit
end
end
section
section
open Go.RowKit
def fnC(N:Nat)(g:Nat→Value):List Value:=(List.range N).map g
theorem aiB{N i:Nat}{g:Nat→Value}(hi:i<N):(fnC N g)[i]? =some (g i):=by
 unfold fnC;rw[BG,FD hi];rfl
theorem Xa{α:Type _}(N i:Nat)(g:Nat→α)(v:α):((List.range N).map g).set i v=(List.range N).map (fun j=>if j=i then v else g j):=by
 apply Eu
 intro j
 rw[Ei]
 by_cases hj:j<N
 ·by_cases e:i=j
  ·subst e
   rw[if_pos rfl,BG,FD hj]
   simp[hj]
  ·rw[if_neg e,BG,BG,FD hj]
   have:¬j=i:=fun e2=>e e2.symm
   simp[this]
 ·have h1:∀(h:Nat→α),((List.range N).map h)[j]? =none:=fun h=>by rw[DC];simp;omega
  rw[h1]
  by_cases e:i=j
  ·subst e;rw[if_pos rfl,if_neg zN,h1]
  ·rw[if_neg e,h1]
theorem apx(N i:Nat)(g:Nat→Value)(v:Value):(fnC N g).set i v=fnC N (fun j=>if j=i then v else g j):=Xa N i g v
theorem Y0{N:Nat}{g h:Nat→Value}(e:∀i,i<N→g i=h i):fnC N g=fnC N h:=by
 unfold fnC
 exact EU fun i hi=>e i zO
structure FQ where
 A:Option Addr
 n:Nat
 c:Nat
 xs:List Int
def FQ.v(r:FQ):Value:= .slice r.A r.n r.c
def FQ.nil:FQ:=⟨none,0,0,[]⟩
def QN(T:TypeId)(r:FQ):Fp:=Dw 1 (.slice r.A r.n r.c) r.n (r.xs.map (Value.int .i64)) T
def KR(F:Nat→FQ)(i:Nat)(r:FQ):Nat→FQ:=fun j=>if j=i then r else F j
theorem TY(F:Nat→FQ)(i:Nat)(r:FQ):KR F i r i=r:=by unfold KR;rw[if_pos rfl]
theorem OG(F:Nat→FQ){i j:Nat}(r:FQ)(h:j≠i):KR F i r j=F j:=by unfold KR;rw[if_neg h]
theorem abB(F:Nat→FQ)(i:Nat)(r q:FQ):KR (KR F i r) i q=KR F i q:=by
 funext j;unfold KR;split<;>rfl
def Pj(T:TypeId)(N:Nat)(F:Nat→FQ):List Fp:=(List.range N).map fun i=>QN T (F i)
def fam(T:TypeId)(N:Nat)(F:Nat→FQ):Fp:=grp (Pj T N F)
section
variable{w0 W:World}{Fr:List Nat}{L A:List Fp}
theorem Heap.splice(H:Heap w0 Fr (grp A::L) W):Heap w0 Fr (A++L) W:=by
 have e:ids (A++L)=ids (grp A::L):=by rw[F8,EW];rfl
 refine⟨fun E hE=>?_,by rw[e];exact H.nd,by rw[e];exact H.own,H.only⟩
 rcases BJ.1 hE with h|h
 ·exact(H.Bl 0 rfl).1 E h
 ·exact H.ok E (Ee _ h)
theorem Heap.bundle(H:Heap w0 Fr (A++L) W):Heap w0 Fr (grp A::L) W:=by
 have e:ids (A++L)=ids (grp A::L):=by rw[F8,EW];rfl
 refine⟨fun E hE=>?_,by rw[←e];exact H.nd,by rw[←e];exact H.own,H.only⟩
 rcases Dq.1 hE with rfl|h
 ·exact H.part
 ·exact H.ok E (C9 _ h)
theorem afU(T:TypeId)(N i:Nat)(F:Nat→FQ)(r:FQ):(Pj T N F).set i (QN T r)=Pj T N (KR F i r):=by
 unfold Pj
 rw[Xa]
 refine EU fun j _=>?_
 unfold KR
 split<;>rfl
theorem aaB{T:TypeId}{N i:Nat}{F:Nat→FQ}(hi:i<N):(Pj T N F)[i]? =some (QN T (F i)):=by
 unfold Pj;rw[BG,FD hi];rfl
theorem agn(T:TypeId)(N:Nat)(F:Nat→FQ):(Pj T N F).length=N:=by unfold Pj;simp
theorem Heap.aub{T:TypeId}{N:Nat}{F:Nat→FQ}(H:Heap w0 Fr (fam T N F::L) W){i:Nat}(hi:i<N):Heap w0 Fr (QN T (F i)::fam T N (KR F i FQ.nil)::L) W:=by
 have h1:Heap w0 Fr (Pj T N F++L) W:=H.splice
 have hl:i<(Pj T N F).length:=by rw[agn];exact hi
 have hp:=Py (Pj T N F) i hl
 have hg:(Pj T N F)[i]=QN T (F i):=by
  have:=aaB (T:=T) (F:=F) hi
  rw[Ar hl]at this
  injection this
 rw[hg]at hp
 have h2:Heap w0 Fr ((QN T (F i)::(Pj T N F).eraseIdx i)++L) W:=h1.perm (hp.append_right L)
 have h3:=h2.G6 1 T
 have hq:=set_perm (Pj T N F) i (QN T FQ.nil) hl
 rw[afU]at hq
 have h4:Heap w0 Fr ((Pj T N (KR F i FQ.nil)++(QN T (F i)::L))) W:=by
  refine h3.perm ?_
  refine List.Perm.trans ?_ (hq.symm.append_right _)
  rw[EJ,EJ]
  refine List.Perm.cons _ ?_
  exact O9.symm
 have h5:=h4.bundle
 exact h5.perm (List.Perm.swap _ _ _)
theorem Heap.awH{T:TypeId}{N:Nat}{F:Nat→FQ}{r:FQ}(H:Heap w0 Fr (QN T r::fam T N F::L) W){i:Nat}(hi:i<N)(hF:F i=FQ.nil):Heap w0 Fr (fam T N (KR F i r)::L) W:=by
 have h0:Heap w0 Fr (grp (Pj T N F)::(QN T r::L)) W:=H.perm (List.Perm.swap _ _ _)
 have h1:=h0.splice
 have hl:i<(Pj T N F).length:=by rw[agn];exact hi
 have hp:=Py (Pj T N F) i hl
 have hg:(Pj T N F)[i]=QN T (F i):=by
  have:=aaB (T:=T) (F:=F) hi
  rw[Ar hl]at this
  injection this
 rw[hg,hF]at hp
 have h2:Heap w0 Fr (QN T FQ.nil::((Pj T N F).eraseIdx i++(QN T r::L))) W:=h1.perm (hp.append_right _)
 have h3:=h2.drop
 have hq:=set_perm (Pj T N F) i (QN T r) hl
 rw[afU]at hq
 have h4:Heap w0 Fr (Pj T N (KR F i r)++L) W:=by
  refine h3.perm ?_
  refine List.Perm.trans ?_ (hq.symm.append_right _)
  exact O9
 exact h4.bundle
theorem Heap.pull{T:TypeId}{N:Nat}{F:Nat→FQ}(H:Heap w0 Fr L W)(j:Nat)(hj:L[j]? =some (fam T N F)){i:Nat}(hi:i<N):Heap w0 Fr (QN T (F i)::L.set j (fam T N (KR F i FQ.nil))) W:=by
 obtain⟨hlt,_⟩:=BA.1 hj
 have h1:=(H.pick j hj).aub hi
 refine h1.perm (List.Perm.cons _ ?_)
 exact(set_perm L j _ hlt).symm
theorem Heap.push{T:TypeId}{N:Nat}{F:Nat→FQ}{r:FQ}(H:Heap w0 Fr (QN T r::L) W)(j:Nat)(hj:L[j]? =some (fam T N F)){i:Nat}(hi:i<N)(hF:F i=FQ.nil):Heap w0 Fr (L.set j (fam T N (KR F i r))) W:=by
 obtain⟨hlt,_⟩:=BA.1 hj
 have h0:Heap w0 Fr (QN T r::fam T N F::L.eraseIdx j) W:=H.perm (List.Perm.cons _ (by
  have:=Py L j hlt
  have hg:L[j]=fam T N F:=by
   rw[Ar hlt]at hj
   injection hj
  rwa [hg]at this))
 exact(h0.awH hi hF).perm (set_perm L j _ hlt).symm
theorem DW.row{T:TypeId}{N:Nat}{F:Nat→FQ}{j:Nat}{A:List Fp}(hE:DW A W)(hj:A[j]? =some (fam T N F)){i:Nat}(hi:i<N):W.ownsRow 0 T 1 (.slice (F i).A (F i).n (F i).c) (F i).n ((F i).xs.map (Value.int .i64)):=by
 have h:=(Heap.start hE).Bl j hj
 exact h.1 _ (A8 (aaB hi))
theorem aaq{T:TypeId}{N:Nat}{F:Nat→FQ}(H:Heap w0 Fr L W)(j:Nat)(hj:L[j]? =some (fam T N F)){i:Nat}(hi:i<N):(F i).xs.length=(F i).n:=by
 have h:=(H.ents.row hj hi).1
 simpa using h
theorem alo{T:TypeId}{N:Nat}{F:Nat→FQ}(H:Heap w0 Fr L W)(j:Nat)(hj:L[j]? =some (fam T N F)){i:Nat}(hi:i<N):Gm (Value.int .i64) W [] (F i).A (F i).xs:=by
 have h:=H.pull j hj hi
 exact JX h 0 rfl
theorem Heap.shrink{size n c m:Nat}{B:Option Addr}{xs:List Value}{T:TypeId}(H:Heap w0 Fr L W)(j:Nat)(hj:L[j]? =some (Dw size (.slice B n c) n xs T))(hm:m≤n)(h0:B=none→m=0∧c=0):Heap w0 Fr (L.set j (Dw size (.slice B m c) m (xs.take (m*size)) T)) W:=by
 refine H.at j hj (F':=(Dw size (.slice B n c) n xs T).ids) ⟨?_,?_,?_,Only.refl _ _⟩ (fun _ h=>h)
 ·intro E hE
  rw[Bf.1 hE]
  have ho:=H.IK j hj
  show W.ownsRow 0 T size (.slice B m c) m (xs.take (m*size))
  rcases ho.2 with⟨e,h2⟩|⟨g,cap,cur,e,h1,h2,h3,h4,h5,h6⟩
  ·injection e with e1 e2 e3
   obtain⟨rfl,rfl⟩:=h0 e1
   subst e1
   simp only[XU,Ld]
   exact World.ownsRow_nil W 0 T size
  ·injection e with e1 e2 e3
   subst e1;subst e3
   refine⟨by rw[Dy,ho.1];exact KA (MX _ hm),.inr ⟨g,c,cur,rfl,h1,h2,Y,h4,h5,?_⟩⟩
   rw[←h6,List.take_take,KA (MX _ hm)]
 ·simp[ids,Dw,Value.ownBlock];cases B<;>simp
 ·intro i hi
  left
  simp only[ids,FW,Nw,Du]at hi
  cases B<;>exact hi
theorem Heap.adV{size n c m:Nat}{B:Option Addr}{xs:List Value}{T:TypeId}(H:Heap w0 Fr L W)(j:Nat)(hj:L[j]? =some (Dw size (.slice B n c) n xs T))(hm:m≤n):Heap w0 Fr (L.set j (Dw size (.slice B m c) m (xs.take (m*size)) T)) W:=by
 refine H.shrink j hj hm fun hB=>?_
 subst hB
 rcases(H.IK j hj).2 with⟨e,h2⟩|⟨g,cap,cur,e,_⟩
 ·injection e with _ e2 e3
  exact⟨Y,e3⟩
 ·injection e with e1;cases e1
theorem Xi{r:FQ}{m:Nat}{T:TypeId}(H:Heap w0 Fr L W)(j:Nat)(hj:L[j]? =some (QN T r))(hm:m≤r.n):Heap w0 Fr (L.set j (QN T ⟨r.A,m,r.c,r.xs.take m⟩)) W:=by
 have h:=H.adV j hj hm
 rw[Jh,←NU]at h
 exact h
end
end
end
section
section
open Go.RowKit
section
variable{P:Program}{ops:Array Oper}{rest:List Oper}{n:Sz}{k k2:Nat}{f:Nat→Value}{W w0:World}{F:List Nat}{L:List Fp}{Q:Exit→Act→World→Prop}{ty ty2:TypeId}{pos pos2:String}{af af2:Array Edge}{g:Option (Nat×Bool)}{x y s:Operand}{v u:Value}{t e:TypeId}
end
end
end
section
section
open Go.RowKit
section
variable{P:Program}{n:Sz}{f:Nat→Value}{W w0:World}{dst:Option Tmp}{ty:TypeId}{pos:String}{af:Array Edge}{g:Option (Nat×Bool)}{x y:Operand}{t t2 e1 e2 e3:TypeId}
theorem ai1{k1 k2 k3 q1 q2 q3:IntKind}{a b c a' b' c':Int}(ht:P.underlying t=some (.struct (P.fieldsOf t)))(hp:P.stoodInHeld t=false)
 (hf : (P.fieldsOf t).toList.map (fun f => (f.name != "_", f.type, f.offset)) = [(true, e1, 0), (true, e2, 1), (true, e3, 2)]) (h1 : P.underlying e1 = some (.int q1)) (h2 : P.underlying e2 = some (.int q2)) (h3 : P.underlying e3 = some (.int q3)) (D : Nat) :
 (Op.equalIn (D+2) t (.agg [.int k1 a,.int k2 b,.int k3 c].toArray) (.agg [.int k1 a',.int k2 b',.int k3 c'].toArray)).run P W= .ok (decide (a=a'∧b=b'∧c=c')) W:=by
 rw[run_equalIn_struct W (D+1) t _ _ ht hp]
 generalize(P.fieldsOf t).toList=fs at hf
 obtain⟨f1,f2,f3,rfl⟩:∃f1 f2 f3,fs=[f1,f2,f3]:=by
  have:=congrArg List.length hf
  simp only[Ci,Em,Jy]at this
  rcases fs with _|⟨f1,_|⟨f2,_|⟨f3,_|⟨f4,fs⟩⟩⟩⟩
  ·simp at this
  ·simp at this
  ·simp at this
  ·exact⟨f1,f2,f3,rfl⟩
  ·simp at this
 simp only[Dx,D5,P6,SH,and_true,bne_iff_ne]at hf
 obtain⟨⟨n1,rfl,o1⟩,⟨n2,rfl,o2⟩,n3,rfl,o3⟩:=hf
 have p1:∀(W:World) (u v z:Value),(part f1.type [u,v,z].toArray f1.offset).run P W= .ok u W:=by
  intro W u v z;simp[part,isAgg,run_underlying h1,o1]
 have p2:∀(W:World) (u v z:Value),(part f2.type [u,v,z].toArray f2.offset).run P W= .ok v W:=by
  intro W u v z;simp[part,isAgg,run_underlying h2,o2]
 have p3:∀(W:World) (u v z:Value),(part f3.type [u,v,z].toArray f3.offset).run P W= .ok z W:=by
  intro W u v z;simp[part,isAgg,run_underlying h3,o3]
 simp only[Op.eqFields,n1,n2,n3,ne_eq,not_false_eq_true,if_true,Sem.run_bind,p1,p2,p3,Result.andThen_ok,run_equalIn_int W D f1.type k1 q1 _ _ h1]
 by_cases c1:a=a'
 ·by_cases c2:b=b'
  ·by_cases c3:c=c'
   ·simp[c1,c2,c3,Op.eqFields,p2,p3,run_equalIn_int W D f2.type k2 q2 _ _ h2,run_equalIn_int W D f3.type k3 q3 _ _ h3]
   ·simp[c1,c2,c3,Op.eqFields,p2,p3,run_equalIn_int W D f2.type k2 q2 _ _ h2,run_equalIn_int W D f3.type k3 q3 _ _ h3]
  ·simp[c1,c2,Op.eqFields,p2,run_equalIn_int W D f2.type k2 q2 _ _ h2]
 ·simp[c1]
theorem afh{k1 k2 k3 q1 q2 q3:IntKind}{a b c a' b' c':Int}(hx:ev n f x= .agg [.int k1 a,.int k2 b,.int k3 c].toArray)(hy:ev n f y= .agg [.int k1 a',.int k2 b',.int k3 c'].toArray)(ht:P.underlying t=some (.struct (P.fieldsOf t)))(hp:P.stoodInHeld t=false)(hg:P.eqGuardType P.depth t=false)
 (hf : (P.fieldsOf t).toList.map (fun f => (f.name != "_", f.type, f.offset)) = [(true, e1, 0), (true, e2, 1), (true, e3, 2)]) (h1 : P.underlying e1 = some (.int q1)) (h2 : P.underlying e2 = some (.int q2)) (h3 : P.underlying e3 = some (.int q3)) {q : Bool} (hq : decide (a = a' ∧ b = b' ∧ c = c') = q) :
 (execOp (ev n f) ⟨dst,.binOp .eql t x y t2,ty,pos,af,g⟩).run P W= .ok (.value (.bool q)) W:=by
 subst hq
 have h:=ai1 (W:=W) (k1:=k1) (k2:=k2) (k3:=k3) (a:=a) (b:=b) (c:=c) (a':=a') (b':=b') (c':=c') ht hp hf h1 h2 h3 9998
 have h2:(binOp .eql t (.agg [.int k1 a,.int k2 b,.int k3 c].toArray) (.agg [.int k1 a',.int k2 b',.int k3 c'].toArray)).run P W= .ok (.bool (decide (a=a'∧b=b'∧c=c'))) W:=by
  rw[run_eql_struct,h];rfl
 have h3:=run_eqGuard_agg W .eql t x y [Value.int k1 a,.int k2 b,.int k3 c].toArray [Value.int k1 a',.int k2 b',.int k3 c'].toArray hg
 simp only[execOp,hx,hy,Sem.run_bind,h3,h2,Result.andThen_ok]
 rfl
theorem aql{k1 k2 k3 q1 q2 q3:IntKind}{a b c a' b' c':Int}(hx:ev n f x= .agg [.int k1 a,.int k2 b,.int k3 c].toArray)(hy:ev n f y= .agg [.int k1 a',.int k2 b',.int k3 c'].toArray)(ht:P.underlying t=some (.struct (P.fieldsOf t)))(hp:P.stoodInHeld t=false)(hg:P.eqGuardType P.depth t=false)
 (hf : (P.fieldsOf t).toList.map (fun f => (f.name != "_", f.type, f.offset)) = [(true, e1, 0), (true, e2, 1), (true, e3, 2)]) (h1 : P.underlying e1 = some (.int q1)) (h2 : P.underlying e2 = some (.int q2)) (h3 : P.underlying e3 = some (.int q3)) {q : Bool} (hq : decide (a = a' ∧ b = b' ∧ c = c') = !q) :
 (execOp (ev n f) ⟨dst,.binOp .neq t x y t2,ty,pos,af,g⟩).run P W= .ok (.value (.bool q)) W:=by
 have h:=ai1 (W:=W) (k1:=k1) (k2:=k2) (k3:=k3) (a:=a) (b:=b) (c:=c) (a':=a') (b':=b') (c':=c') ht hp hf h1 h2 h3 9998
 have h2:(binOp .neq t (.agg [.int k1 a,.int k2 b,.int k3 c].toArray) (.agg [.int k1 a',.int k2 b',.int k3 c'].toArray)).run P W= .ok (.bool q) W:=by
  rw[run_neq_struct,h,hq];simp[Result.andThen]
 have h3:=run_eqGuard_agg W .neq t x y [Value.int k1 a,.int k2 b,.int k3 c].toArray [Value.int k1 a',.int k2 b',.int k3 c'].toArray hg
 simp only[execOp,hx,hy,Sem.run_bind,h3,h2,Result.andThen_ok]
 rfl
end
end
end
section
section
open Go.RowKit
theorem ab7{α β:Type}{lb:List ((α×β)×Bool)}{j:Nat}{p:α×β}(h:lb[j]? =some (p,true)):(mleft lb).length=(mleft (lb.set j (p,false))).length+1:=by
 have:=(Pg lb j p h).length_eq;simpa using this
theorem anz{α β:Type}{lb:List ((α×β)×Bool)}{j:Nat}{p:α×β}(h:lb[j]? =some (p,true)):(lb.set j (p,false)).map (·.1)=lb.map (·.1):=by
 rw[Gy]
 apply Eu
 intro i
 rw[Ei]
 by_cases e:j=i
 ·subst e
  rw[if_pos rfl,BG,h]
  have:=(BA.1 h).1
  rw[if_pos zK];rfl
 ·rw[if_neg e]
theorem agu{α β:Type}(l:List (α×β)):(l.map fun p=>(p,true)).map (fun x:(α×β)×Bool=>x.1)=l:=by rw[Ja];exact TS l
section
variable{P:Program}{n:Sz}{f:Nat→Value}{W w0:World}{F:List Nat}{L:List Fp}{dst:Option Tmp}{ty:TypeId}{pos:String}{af:Array Edge}{g:Option (Nat×Bool)}{x:Operand}{t kt e:TypeId}{α β:Type}[DecidableEq α]{C:KC P kt α}{ET:β→Value}{b:Nat}{l:List (α×β)}
theorem ani(H:Heap w0 F L W)(j:Nat)(hj:L[j]? =some (mp C ET b l))(hx:ev n f x= .map (some b))(h:P.underlying t=some (.map kt e)):(execOp (ev n f) ⟨dst,.call ⟨.builtin .len,#[x],#[t]⟩,ty,pos,af,g⟩).run P W= .ok (.value (.int .i64 l.length)) W:=by
 obtain⟨es,clock,hb,hk⟩:=H.Xm j hj
 have h2:(Builtin.len_ #[t] ty #[.map (some b)]).run P W= .ok (.int .i64 l.length) W:=by
  have hg:(getObj b).run P W= .ok (.map es clock) W:=by simp[getObj,Sem.run,hb]
  simp[Builtin.len_,run_underlying h,hg,hk.len];rfl
 have h3: #[x].map (ev n f)= #[Value.map (some b)]:=by simp[hx]
 simp only[execOp,resolve,invoke,builtin,h3,Sem.run_bind,Sem.run_pure,Result.andThen_ok,h2]
end
end
end
section
namespace Nv
theorem J5{α:Type}(l:List α)(i j:Nat)(v z:α)(hi:i<l.length):(l.set i v).getD j z=if i=j then v else l.getD j z:=by
 simp only[List.getD,Ei]
 split
 ·subst_vars;simp[hi]
 ·rfl
theorem Y3(c:List Int)(i r:Nat)(hr:r<8):(part c i).getD r 0=c.getD (8*i+r) 0:=by
 unfold part
 simp only[List.getD]
 rw[Et hr,DV]
theorem aem(l c:List Int)(i x:Nat)(hl:8*i+8≤l.length)(hc:8*i+8≤c.length):(Io l i (part c i)).getD x 0=if x/8=i then c.getD x 0 else l.getD x 0:=by
 have hp:(part c i).length=8:=Ji hc
 unfold Io
 by_cases h1:x<8*i
 ·rw[if_neg Y]
  simp only[List.getD]
  rw[DI,Ej Af,Et h1]
 ·by_cases h2:x<8*i+8
  ·rw[if_pos Y]
   have:=Y3 c i (x-8*i) Y
   rw[show 8*i+(x-8*i)=x by omega]at this
   rw[←this]
   simp only[List.getD]
   rw[Ej (by simp[hp];omega),D8 Af]
   simp only[Dy]
   rw[show min (8*i) l.length=8*i by omega]
  ·rw[if_neg Y]
   simp only[List.getD]
   rw[D8 (by simp[hp];omega),DV]
   simp only[Cm,Dy,hp]
   rw[show 8*i+8+(x-(min (8*i) l.length+8))=x by omega]
theorem of_same{a b:List Int}{i x:Nat}(h:same (part a i) (part b i)=true)(hx:x/8=i):a.getD x 0=b.getD x 0:=by
 have h':part a i=part b i:=of_decide_eq_true h
 have:(part a i).getD (x-8*i) 0=(part b i).getD (x-8*i) 0:=by rw[h']
 rw[Y3 _ _ _ Y,Y3 _ _ _ Y,show 8*i+(x-8*i)=x by omega]at this
 exact this
structure Inv (d:D) (m:Nat):Prop where
 ok:Ok d m
 cl:∀x,x<8*m→d.dirty.getD (x/8) false=false→d.last.getD x 0=d.cache.getD x 0
 pd:∀i,d.pend.getD i false=true→d.dirty.getD i false=true
theorem Inv.load(ws:List Int)(m:Nat)(h:ws.length=8*m):Inv (load ws m) m:=
 ⟨⟨h,h,by simp[Nv.load,h],by simp[Nv.load],by simp[Nv.load]⟩,fun _ _ _=>rfl,fun i hi=>by
  have:(List.replicate m false).getD i false=true:=hi
  simp only[List.getD,D7]at this
  split at this<;>simp at this⟩
theorem Inv.killed{d:D}{m:Nat}(h:Inv d m):Inv (killed d) m:=⟨h.ok.killed,h.cl,h.pd⟩
theorem Inv.stepped{d:D}{m:Nat}(h:Inv d m):Inv (stepped d) m:=⟨h.ok.stepped,h.cl,h.pd⟩
theorem Inv.put{d:D}{m:Nat}(h:Inv d m){a:Nat}(ha:a<8*m)(v:Int):Inv (put d a v) m:=by
 have hd:=h.ok.hd
 have hc:=h.ok.hc
 refine⟨h.ok.put a v,fun x hx hdx=>?_,fun i hi=>?_⟩
 ·have e:(d.dirty.set (a/8) true).getD (x/8) false=false:=hdx
  rw[J5 _ _ _ _ _ Y]at e
  split at e
  ·cases e
  ·show d.last.getD x 0=(d.cache.set a v).getD x 0
   rw[J5 _ _ _ _ _ Y,if_neg (by rintro rfl;exact absurd rfl ‹_›)]
   exact h.cl x hx e
 ·show(d.dirty.set (a/8) true).getD i false=true
  rw[J5 _ _ _ _ _ Y]
  split
  ·rfl
  ·exact h.pd i hi
theorem Inv.flushed{d:D}{m:Nat}(h:Inv d m){i:Nat}(hi:i<m)(hd:d.dirty.getD i false=true):Inv (flushed d i) m:=by
 have hp:=h.ok.hp
 refine⟨h.ok.flushed hi,h.cl,fun j hj=>?_⟩
 have e:(d.pend.set i true).getD j false=true:=hj
 rw[J5 _ _ _ _ _ Y]at e
 split at e
 ·subst_vars;exact hd
 ·exact h.pd j e
theorem Inv.EF{d:D}{m:Nat}(h:Inv d m){i:Nat}(hi:i<m):Inv (EF d i) m:=by
 have hd:=h.ok.hd
 have hp:=h.ok.hp
 have hl:=h.ok.hl
 have hf:=h.ok.hf
 have ho:=h.ok.EF hi
 unfold Nv.EF at ho⊢
 split
 ·rename_i hpi
  rw[if_pos hpi]at ho
  refine⟨ho,fun x hx hdx=>?_,fun j hj=>?_⟩
  ·have e:(d.dirty.set i (!same (part d.fl i) (part d.cache i))).getD (x/8) false=false:=hdx
   show(Io d.last i (part d.fl i)).getD x 0=d.cache.getD x 0
   rw[aem _ _ _ _ Y Y]
   rw[J5 _ _ _ _ _ Y]at e
   by_cases hxi:x/8=i
   ·rw[if_pos hxi.symm]at e
    rw[if_pos hxi]
    exact of_same (by simpa using e) hxi
   ·rw[if_neg (fun h=>hxi h.symm)]at e
    rw[if_neg hxi]
    exact h.cl x hx e
  ·have e:(d.pend.set i false).getD j false=true:=hj
   rw[J5 _ _ _ _ _ Y]at e
   split at e
   ·cases e
   ·show(d.dirty.set i _).getD j false=true
    rw[J5 _ _ _ _ _ Y,if_neg ‹_›]
    exact h.pd j e
 ·exact h
theorem Inv.FZ{d:D}{m:Nat}(h:Inv d m):∀k,k≤m→Inv (FZ d k) m
 |0,_=>h
 |k+1,hk=>(Inv.FZ h k Y).EF Y
theorem Inv.store{d:D}{m:Nat}(h:Inv d m)(a v:Int):Inv (store d m a v).1 m:=by
 unfold Nv.store;split
 ·split
  ·exact h.killed
  ·exact h.stepped.put Y _
 ·exact h
theorem Inv.flush{d:D}{m:Nat}(h:Inv d m)(l:Int):Inv (flush d m l).1 m:=by
 unfold Nv.flush;split
 ·split
  ·exact h.killed
  ·show Inv (if _ then _ else _) m
   split
   ·exact h.stepped.flushed Y ‹_›
   ·exact h.stepped
 ·exact h
theorem Inv.fence{d:D}{m:Nat}(h:Inv d m):Inv (fence d m).1 m:=by
 unfold Nv.fence;split
 ·exact h.killed
 ·exact h.stepped.FZ m (Bg _)
theorem Inv.Ed{m:Nat}:∀(k i:Nat) (d:D),Inv d m→Inv (Ed d m i k).1 m
 |0,_,_,h=>h
 |k+1,i,d,h=>by
  unfold Nv.Ed;split
  ·exact Inv.Ed k _ _ (h.flush _)
  ·exact h.flush _
theorem Inv.persist{d:D}{m:Nat}(h:Inv d m)(a n:Int):Inv (persist d m a n).1 m:=by
 unfold Nv.persist;split
 ·exact h
 ·split
  ·exact h.fence
  ·split
   ·exact(Inv.Ed _ _ _ h).fence
   ·exact Inv.Ed _ _ _ h
def Fd(d:D)(j:Nat):Prop:=d.dirty.getD j false=true→d.pend.getD j false=true∧part d.fl j=part d.cache j
theorem ad3(l p:List Int)(i:Nat)(hl:8*i+8≤l.length)(hp:p.length=8):part (Io l i p) i=p:=by
 unfold part Io
 rw[DI,Ls Af,OH Af,EH,Jo Y,Ez Y]
theorem ZI(l p:List Int)(i j:Nat)(hl:8*i+8≤l.length)(hp:p.length=8)(hij:i≠j):part (Io l i p) j=part l j:=by
 unfold part Io
 apply Eu
 intro r
 by_cases hr:r<8
 ·rw[Et hr,Et hr,DV,DV]
  by_cases h:j<i
  ·rw[DI,Ej Af,Et Y]
  ·rw[D8 Af,DV]
   simp only[Cm,Dy,hp]
   congr 1;omega
 ·rw[DC Af,DC Af]
theorem Fd.Zx{d:D}{m:Nat}(ho:Ok d m){j:Nat}{l:Int}(hne:l≠(j:Int))(h:Fd d j):Fd (flush d m l).1 j:=by
 have hp:=ho.hp
 have hf:=ho.hf
 have hc:=ho.hc
 unfold Nv.flush;split
 ·split
  ·exact h
  ·show Fd (if _ then _ else _) j
   split
   ·intro hdj
    obtain⟨h1,h2⟩:=h hdj
    refine⟨?_,?_⟩
    ·show(d.pend.set l.toNat true).getD j false=true
     rw[J5 _ _ _ _ _ Y,if_neg Y];exact h1
    ·show part (Io d.fl l.toNat (part d.cache l.toNat)) j=part d.cache j
     rw[ZI _ _ _ _ Y (Ji Y) Y];exact h2
   ·exact h
 ·exact h
theorem Fd.ahG{d:D}{m:Nat}(ho:Ok d m){j:Nat}(hz:(flush d m (j:Int)).2=0):Fd (flush d m (j:Int)).1 j:=by
 have hp:=ho.hp
 have hf:=ho.hf
 have hc:=ho.hc
 unfold Nv.flush at hz⊢
 split
 ·rename_i hr
  rw[if_pos hr]at hz
  split
  ·rw[if_pos ‹_›]at hz;cases hz
  ·show Fd (if _ then _ else _) j
   split
   ·intro _
    refine⟨?_,?_⟩
    ·show(d.pend.set (j:Int).toNat true).getD j false=true
     rw[J5 _ _ _ _ _ Y,if_pos Y]
    ·show part (Io d.fl (j:Int).toNat (part d.cache (j:Int).toNat)) j=part d.cache j
     rw[show(j:Int).toNat=j by omega,ad3 _ _ _ Y (Ji Y)]
   ·intro hdj;exact absurd hdj ‹_›
 ·rw[if_neg ‹_›]at hz;cases hz
theorem Fd.VN{m:Nat}:∀(k i:Nat) (d:D),Ok d m→∀j,j<i→Fd d j→Fd (Ed d m i k).1 j
 |0,_,_,_,_,_,h=>h
 |k+1,i,d,ho,j,hj,h=>by
  unfold Nv.Ed;split
  ·exact Fd.VN k _ _ (ho.flush _) j Y (h.Zx ho Y)
  ·exact h.Zx ho Y
theorem Fd.Ed{m:Nat}:∀(k i:Nat) (d:D),Ok d m→(Ed d m i k).2=0→∀j,i≤j→j<i+k→Fd (Ed d m i k).1 j
 |0,_,_,_,_,_,_,_=>by omega
 |k+1,i,d,ho,hz,j,h1,h2=>by
  unfold Nv.Ed at hz⊢
  split
  ·rename_i h0
   rw[if_pos h0]at hz
   by_cases hij:j=i
   ·subst hij
    exact Fd.VN k _ _ (ho.flush _) j Y (Fd.ahG ho h0)
   ·exact Fd.Ed k _ _ (ho.flush _) hz j Y Y
  ·rename_i h0
   rw[if_neg h0]at hz
   exact absurd hz h0
theorem XC{d:D}{m:Nat}(ho:Ok d m){i j:Nat}(hi:i<m)(hij:i≠j):(EF d i).dirty.getD j false=d.dirty.getD j false:=by
 have hd:=ho.hd
 unfold Nv.EF;split
 ·show(d.dirty.set i _).getD j false=_
  rw[J5 _ _ _ _ _ Y,if_neg hij]
 ·rfl
theorem Fd.adR{d:D}{m:Nat}(ho:Ok d m){i j:Nat}(hi:i<m)(hij:i≠j)(h:Fd d j):Fd (EF d i) j:=by
 have hd:=ho.hd
 have hp:=ho.hp
 unfold Nv.EF;split
 ·intro hdj
  have e:(d.dirty.set i (!same (part d.fl i) (part d.cache i))).getD j false=true:=hdj
  rw[J5 _ _ _ _ _ Y,if_neg hij]at e
  obtain⟨h1,h2⟩:=h e
  refine⟨?_,h2⟩
  show(d.pend.set i false).getD j false=true
  rw[J5 _ _ _ _ _ Y,if_neg hij];exact h1
 ·exact h
theorem ZO{d:D}{m:Nat}(hI:Inv d m){j:Nat}(hj:j<m)(h:Fd d j):(EF d j).dirty.getD j false=false:=by
 have hd:=hI.ok.hd
 unfold Nv.EF;split
 ·rename_i hpj
  show(d.dirty.set j _).getD j false=_
  rw[J5 _ _ _ _ _ Y,if_pos rfl]
  rw[(h (hI.pd j hpj)).2];simp[same]
 ·rename_i hpj
  cases hdj:d.dirty.getD j false
  ·rfl
  ·exact absurd (h hdj).1 hpj
theorem WW{d:D}{m:Nat}(hI:Inv d m):∀(k j:Nat),k≤m→j<m→Fd d j→(j<k→(FZ d k).dirty.getD j false=false)∧(k≤j→Fd (FZ d k) j)
 |0,j,_,_,h=>⟨fun h0=>Y,fun _=>h⟩
 |k+1,j,hk,hj,h=>by
  obtain⟨h1,h2⟩:=WW hI k j Y hj h
  have hIk:=hI.FZ k Y
  refine⟨fun hjk=>?_,fun hjk=>Fd.adR hIk.ok Y Y (h2 Y)⟩
  by_cases e:j=k
  ·subst e;exact ZO hIk Y (h2 (Bg _))
  ·show(EF (FZ d k) k).dirty.getD j false=false
   rw[XC hIk.ok Y Y];exact h1 Y
theorem SI{d:D}{m:Nat}(hI:Inv d m){a n:Int}(hz:(persist d m a n).2=0):∀x:Nat,a≤x→(x:Int)<a+n→x<8*m∧(persist d m a n).1.dirty.getD (x/8) false=false:=by
 intro x hx1 hx2
 unfold Nv.persist at hz⊢
 split
 ·rw[if_pos ‹_›]at hz;cases hz
 ·rename_i hr
  rw[if_neg hr]at hz
  split
  ·omega
  ·rename_i hn
   rw[if_neg hn]at hz
   refine⟨Y,?_⟩
   split
   ·rename_i h0
    rw[if_pos h0]at hz
    have hI2:=Inv.Ed (((a+n-1)/8).toNat+1-(a/8).toNat) (a/8).toNat d hI
    have hF:=Fd.Ed (((a+n-1)/8).toNat+1-(a/8).toNat) (a/8).toNat d hI.ok h0 (x/8) Y Y
    generalize(Nv.Ed d m (a/8).toNat (((a+n-1)/8).toNat+1-(a/8).toNat)).1=d2 at*
    unfold Nv.fence at hz⊢
    split
    ·rw[if_pos ‹_›]at hz;cases hz
    ·exact(WW hI2.stepped m (x/8) (Bg _) Y hF).1 Y
   ·rename_i h0
    rw[if_neg h0]at hz;exact absurd hz h0
end Nv
end
section
namespace Nv
def order:List Nat:=[1,2,3,4,5,6,7,9,10,11,12,13,14,15,0,8]
def Il(d:D)(m a:Nat)(ws:List Int):Nat→D×Int
 |0=>(d,0)
 |k+1=>if(Il d m a ws k).2=0 then store (Il d m a ws k).1 m ((a:Int)+(order.getD k 0:Nat)) (ws.getD (order.getD k 0) 0)else Il d m a ws k
def wr(d:D)(m a:Nat)(ws:List Int):D×Int:=if(Il d m a ws 16).2=0 then persist (Il d m a ws 16).1 m a 16 else Il d m a ws 16
theorem abj(d:D)(m a:Nat)(ws:List Int)(j:Nat)(h:(Il d m a ws j).2≠0):∀q,Il d m a ws (j+q)=Il d m a ws j
 |0=>rfl
 |q+1=>by
  have ih:=abj d m a ws j h q
  rw[←Gs,Il,if_neg (by rw[ih];exact h),ih]
theorem afF(d:D)(m a:Nat)(ws:List Int)(j:Nat)(hj:j≤16)(h:(Il d m a ws j).2≠0):wr d m a ws=Il d m a ws j:=by
 have:=abj d m a ws j h (16-j)
 rw[show j+(16-j)=16 by omega]at this
 unfold wr
 rw[this,if_neg h]
theorem anm(d:D)(m a:Nat)(ws:List Int)(h:(Il d m a ws 16).2=0):wr d m a ws=persist (Il d m a ws 16).1 m a 16:=by
 unfold wr;rw[if_pos h]
theorem Wx(d:D)(m a:Nat)(ws:List Int)(k:Nat)(h:(Il d m a ws k).2=0):Il d m a ws (k+1)=store (Il d m a ws k).1 m ((a:Int)+(order.getD k 0:Nat)) (ws.getD (order.getD k 0) 0):=by
 rw[Il,if_pos h]
theorem Inv.Il{d:D}{m:Nat}(h:Inv d m)(a:Nat)(ws:List Int):∀k,Inv (Il d m a ws k).1 m
 |0=>h
 |k+1=>by
  have ih:=Inv.Il h a ws k
  rw[Nv.Il]
  split
  ·exact ih.store _ _
  ·exact ih
theorem Inv.wr{d:D}{m:Nat}(h:Inv d m)(a:Nat)(ws:List Int):Inv (wr d m a ws).1 m:=by
 unfold Nv.wr
 split
 ·exact(h.Il a ws 16).persist _ _
 ·exact h.Il a ws 16
def cnt(k:Nat):Nat:=k-(k+7)/8
theorem aro:∀k,k<16→k%8≠0→order.getD (cnt k) 0=k∧cnt (k+1)=cnt k+1:=by decide
theorem akR:∀k,k<16→k%8=0→cnt (k+1)=cnt k:=by decide
def JB(d:D)(m a:Nat):Nat→D×Int
 |0=>(d,0)
 |k+1=>if(JB d m a k).2=0 then store (JB d m a k).1 m ((a:Int)+8*(k:Int)) 0 else JB d m a k
def wi(d:D)(m a:Nat)(E:Int):D×Int:=
 if get d.cache a≤E∧get d.cache ((a:Int)+8)≤E then(d,0)
 else if(JB d m a 2).2=0 then persist (JB d m a 2).1 m a 16 else JB d m a 2
theorem abC(d:D)(m a:Nat)(j:Nat)(h:(JB d m a j).2≠0):∀q,JB d m a (j+q)=JB d m a j
 |0=>rfl
 |q+1=>by
  have ih:=abC d m a j h q
  rw[←Gs,JB,if_neg (by rw[ih];exact h),ih]
theorem WC(d:D)(m a:Nat)(k:Nat)(h:(JB d m a k).2=0):JB d m a (k+1)=store (JB d m a k).1 m ((a:Int)+8*(k:Int)) 0:=by
 rw[JB,if_pos h]
theorem Inv.JB{d:D}{m:Nat}(h:Inv d m)(a:Nat):∀k,Inv (JB d m a k).1 m
 |0=>h
 |k+1=>by
  have ih:=Inv.JB h a k
  rw[Nv.JB]
  split
  ·exact ih.store _ _
  ·exact ih
theorem Inv.wi{d:D}{m:Nat}(h:Inv d m)(a:Nat)(E:Int):Inv (wi d m a E).1 m:=by
 unfold Nv.wi
 split
 ·exact h
 split
 ·exact(h.JB a 2).persist _ _
 ·exact h.JB a 2
theorem auI(d:D)(m a:Nat)(E:Int)(h:get d.cache a≤E∧get d.cache ((a:Int)+8)≤E):wi d m a E=(d,0):=by unfold wi;rw[if_pos h]
theorem aeV(d:D)(m a:Nat)(E:Int)(h:¬(get d.cache a≤E∧get d.cache ((a:Int)+8)≤E))(j:Nat)(hj:j≤2)(hc:(JB d m a j).2≠0):wi d m a E=JB d m a j:=by
 have:=abC d m a j hc (2-j)
 rw[show j+(2-j)=2 by omega]at this
 unfold wi
 rw[if_neg h,this,if_neg hc]
theorem amO(d:D)(m a:Nat)(E:Int)(h:¬(get d.cache a≤E∧get d.cache ((a:Int)+8)≤E))(hc:(JB d m a 2).2=0):wi d m a E=persist (JB d m a 2).1 m a 16:=by
 unfold wi;rw[if_neg h,if_pos hc]
def cm(d:D)(m:Nat)(E:Int)(k:Nat)(ws:List Int):D×Int:=
 if 1152921504606846976≤E then(d,26)
 else if(wi d m (64+64*(1-k)) E).2=0 then wr (wi d m (64+64*(1-k)) E).1 m (64+64*(1-k)) ws
 else wi d m (64+64*(1-k)) E
theorem Inv.cm{d:D}{m:Nat}(h:Inv d m)(E:Int)(k:Nat)(ws:List Int):Inv (cm d m E k ws).1 m:=by
 unfold Nv.cm
 split
 ·exact h
 split
 ·exact(h.wi _ E).wr _ _
 ·exact h.wi _ E
end Nv
end
section
namespace Nv
structure Live (d:D):Prop where
 ar:d.armed=false
 de:d.dead=false
theorem Live.stops{d:D}(h:Live d):stops d=false:=by unfold Nv.stops;rw[h.ar,h.de];rfl
theorem Live.stepped{d:D}(h:Live d):Live (stepped d):=⟨h.ar,h.de⟩
theorem Live.put{d:D}(h:Live d)(a:Nat)(v:Int):Live (put d a v):=⟨h.ar,h.de⟩
theorem Live.flushed{d:D}(h:Live d)(i:Nat):Live (flushed d i):=⟨h.ar,h.de⟩
theorem Live.load(ws:List Int)(m:Nat):Live (load ws m):=⟨rfl,rfl⟩
theorem Xh{d:D}{m:Nat}(h:Live d){a:Nat}(ha:a<8*m)(v:Int):store d m a v=(Nv.put (Nv.stepped d) a v,0):=by
 unfold Nv.store
 rw[if_pos Y,h.stops,if_neg J,Bz]
theorem agV{d:D}{m:Nat}(h:Live d){l:Nat}(hl:l<m):(flush d m l).2=0∧Live (flush d m l).1∧(flush d m l).1.cache=d.cache:=by
 unfold Nv.flush
 rw[if_pos Y,h.stops,if_neg J]
 refine⟨rfl,?_⟩
 show Live (if _ then _ else _)∧_
 split
 ·exact⟨h.stepped.flushed _,rfl⟩
 ·exact⟨h.stepped,rfl⟩
theorem Xc{m:Nat}:∀(k i:Nat) (d:D),Live d→i+k≤m→(Ed d m i k).2=0∧Live (Ed d m i k).1∧(Ed d m i k).1.cache=d.cache
 |0,_,_,h,_=>⟨rfl,h,rfl⟩
 |k+1,i,d,h,hk=>by
  obtain⟨h1,h2,h3⟩:=agV h (l:=i) (m:=m) Y
  unfold Nv.Ed
  rw[if_pos h1]
  obtain⟨a,b,c⟩:=Xc (m:=m) k (i+1) _ h2 Y
  exact⟨a,b,c.trans h3⟩
theorem abI{d:D}{m:Nat}(h:Live d):(fence d m).2=0∧Live (fence d m).1∧(fence d m).1.cache=d.cache:=by
 unfold Nv.fence
 rw[h.stops,if_neg J]
 obtain⟨_,h2,_,_,h5,h6⟩:=Ut (Nv.stepped d) m
 exact⟨rfl,⟨h5.trans h.ar,h6.trans h.de⟩,h2⟩
theorem XM{d:D}{m:Nat}(h:Live d){a n:Nat}(hn:a+n≤8*m):(persist d m a n).2=0∧Live (persist d m a n).1∧(persist d m a n).1.cache=d.cache:=by
 unfold Nv.persist
 rw[if_neg Y]
 split
 ·exact abI h
 ·obtain⟨h1,h2,h3⟩:=Xc (m:=m) (((((a:Int)+n-1)/8).toNat+1-((a:Int)/8).toNat)) ((a:Int)/8).toNat d h Y
  rw[if_pos h1]
  obtain⟨a1,a2,a3⟩:=abI (m:=m) h2
  exact⟨a1,a2,a3.trans h3⟩
def ZJ(d:D)(ws:List Int):Nat→D
 |0=>d
 |k+1=>Nv.put (Nv.stepped (ZJ d ws k)) k (ws.getD k 0)
theorem aaA{d:D}(h:Live d)(ws:List Int):∀k,Live (ZJ d ws k)
 |0=>h
 |k+1=>(aaA h ws k).stepped.put _ _
theorem ZY{d:D}{m:Nat}(h:Inv d m)(ws:List Int):∀k,k≤8*m→Inv (ZJ d ws k) m
 |0,_=>h
 |k+1,hk=>(ZY h ws k Y).stepped.put Y _
theorem ady{d:D}{m:Nat}(h:Inv d m)(ws:List Int):∀k,k≤8*m→∀x,x<k→(ZJ d ws k).cache.getD x 0=ws.getD x 0
 |0,_,x,hx=>by omega
 |k+1,hk,x,hx=>by
  have hI:=ZY h ws k Y
  show((ZJ d ws k).cache.set k (ws.getD k 0)).getD x 0=_
  rw[J5 _ _ _ _ _ (by rw[hI.ok.hc];omega)]
  split
  ·rename_i e;subst e;rfl
  ·exact ady h ws k Y x Y
theorem ajG{d:D}{m:Nat}(h:Inv d m)(hl:Live d){ws:List Int}(hw:ws.length=8)(hm:1≤m):(persist (ZJ d ws 8) m 0 8).2=0∧Inv (persist (ZJ d ws 8) m 0 8).1 m∧(persist (ZJ d ws 8) m 0 8).1.last.take 8=ws:=by
 have hI:=ZY h ws 8 Y
 have hL:=aaA hl ws 8
 obtain⟨h1,h2,h3⟩:=XM (m:=m) hL (a:=0) (n:=8) Y
 have hI2:=hI.persist 0 8
 refine⟨h1,hI2,?_⟩
 have hc:=SI hI (a:=0) (n:=8) h1
 have hlen:=hI2.ok.hl
 apply FU
 ·rw[Dy,hlen,hw];omega
 ·intro i i1 i2
  have hi:i<8:=Y
  obtain⟨c1,c2⟩:=hc i Y Y
  have e1:=hI2.cl i c1 c2
  have e2:(persist (ZJ d ws 8) m 0 8).1.cache.getD i 0=ws.getD i 0:=by
   have h4:(persist (ZJ d ws 8) m 0 8).1.cache=(ZJ d ws 8).cache:=h3
   rw[h4,ady h ws 8 Y i hi]
  rw[OD]
  rw[e2,Ba,Ba,Ar Y,Ar Y]at e1
  simpa using e1
end Nv
end
section
namespace Nv
open Im
theorem au0{l:List Int}(h:U l)(i:Nat){v:Int}(hv:0≤v∧v≤18446744073709551615):U (l.set i v):=fun x hx=>by
 rcases E5 hx with h1|h1
 ·exact h x h1
 ·rw[h1];exact hv
theorem amx{l:List Int}(h:U l)(i:Nat):U (part l i):=(h.drop _).take _
theorem adb{l p:List Int}(h:U l)(hp:U p)(i:Nat):U (Io l i p):=fun x hx=>by
 unfold Io at hx
 rcases BJ.1 hx with hx|hx
 ·rcases BJ.1 hx with hx|hx
  ·exact h.take _ x hx
  ·exact hp x hx
 ·exact h.drop _ x hx
structure Ud (d:D):Prop where
 l:U d.last
 c:U d.cache
 f:U d.fl
theorem Ud.load{ws:List Int}(h:U ws)(m:Nat):Ud (load ws m):=⟨h,h,fun x hx=>by rw[(Og.1 hx).2];decide⟩
theorem Ud.killed{d:D}(h:Ud d):Ud (killed d):=⟨h.l,h.c,h.f⟩
theorem Ud.stepped{d:D}(h:Ud d):Ud (stepped d):=⟨h.l,h.c,h.f⟩
theorem Ud.flushed{d:D}(h:Ud d)(i:Nat):Ud (flushed d i):=⟨h.l,h.c,adb h.f (amx h.c i) i⟩
theorem Ud.EF{d:D}(h:Ud d)(i:Nat):Ud (EF d i):=by
 unfold Nv.EF
 split
 ·exact⟨adb h.l (amx h.f i) i,h.c,h.f⟩
 ·exact h
theorem Ud.FZ{d:D}(h:Ud d):∀k,Ud (FZ d k)
 |0=>h
 |k+1=>(Ud.FZ h k).EF k
theorem Ud.store{d:D}(h:Ud d)(m:Nat)(a:Int){v:Int}(hv:0≤v∧v≤18446744073709551615):Ud (store d m a v).1:=by
 unfold Nv.store
 split
 ·split
  ·exact h.killed
  ·exact⟨h.l,au0 h.c _ hv,h.f⟩
 ·exact h
theorem Ud.flush{d:D}(h:Ud d)(m:Nat)(l:Int):Ud (flush d m l).1:=by
 unfold Nv.flush
 split
 ·split
  ·exact h.killed
  ·show Ud (if _ then _ else _)
   split
   ·exact h.stepped.flushed _
   ·exact h.stepped
 ·exact h
theorem Ud.fence{d:D}(h:Ud d)(m:Nat):Ud (fence d m).1:=by
 unfold Nv.fence
 split
 ·exact h.killed
 ·exact h.stepped.FZ _
end Nv
end
section
namespace Nv
theorem getD_set_ne{α:Type}(l:List α)(i j:Nat)(v z:α)(h:i≠j):(l.set i v).getD j z=l.getD j z:=by
 simp only[List.getD,Gw h]
structure Ln (d:D) (j:Nat) (f:Nat→Int):Prop where
 cl:d.dirty.getD j false=false
 va:∀x,x/8=j→d.cache.getD x 0=f x
variable{d:D}{j m:Nat}{f:Nat→Int}
theorem Ln.killed(h:Ln d j f):Ln (killed d) j f:=⟨h.cl,h.va⟩
theorem Ln.stepped(h:Ln d j f):Ln (stepped d) j f:=⟨h.cl,h.va⟩
theorem Ln.put(h:Ln d j f)(a:Nat)(ha:a/8≠j)(v:Int):Ln (put d a v) j f:=
 ⟨(getD_set_ne _ _ _ _ _ ha).trans h.cl,fun x hx=>(getD_set_ne _ _ _ _ _ (fun e=>ha (by rw[e];exact hx))).trans (h.va x hx)⟩
theorem Ln.flushed(h:Ln d j f)(i:Nat):Ln (flushed d i) j f:=⟨h.cl,h.va⟩
theorem Ln.EF(h:Ln d j f)(hI:Inv d m)(i:Nat):Ln (EF d i) j f:=by
 unfold Nv.EF
 split
 ·rename_i hp
  have hne:i≠j:=fun e=>by
   have:=hI.pd i hp
   rw[e,h.cl]at this;cases this
  exact⟨(getD_set_ne _ _ _ _ _ hne).trans h.cl,h.va⟩
 ·exact h
theorem Ln.FZ(h:Ln d j f)(hI:Inv d m):∀k,k≤m→Ln (FZ d k) j f
 |0,_=>h
 |k+1,hk=>(Ln.FZ h hI k Y).EF (hI.FZ k Y) k
theorem Ln.store(h:Ln d j f)(m:Nat)(a:Nat)(ha:a/8≠j)(v:Int):Ln (store d m a v).1 j f:=by
 unfold Nv.store;split
 ·split
  ·exact h.killed
  ·exact h.stepped.put _ (by rw[Bz];exact ha) _
 ·exact h
theorem Ln.flush(h:Ln d j f)(m:Nat)(l:Int):Ln (flush d m l).1 j f:=by
 unfold Nv.flush;split
 ·split
  ·exact h.killed
  ·show Ln (if _ then _ else _) j f
   split
   ·exact h.stepped.flushed _
   ·exact h.stepped
 ·exact h
theorem Ln.fence(h:Ln d j f)(hI:Inv d m):Ln (fence d m).1 j f:=by
 unfold Nv.fence;split
 ·exact h.killed
 ·exact h.stepped.FZ hI.stepped m (Bg _)
theorem Ln.Ed:∀(k i:Nat) (d:D),Ln d j f→Ln (Ed d m i k).1 j f
 |0,_,_,h=>h
 |k+1,i,d,h=>by
  unfold Nv.Ed;split
  ·exact Ln.Ed k _ _ (h.flush m _)
  ·exact h.flush m _
theorem Ln.persist(h:Ln d j f)(hI:Inv d m)(a n:Int):Ln (persist d m a n).1 j f:=by
 unfold Nv.persist;split
 ·exact h
 ·split
  ·exact h.fence hI
  ·split
   ·exact(Ln.Ed _ _ _ h).fence (Inv.Ed _ _ _ hI)
   ·exact Ln.Ed _ _ _ h
theorem aaK:∀k,k<16→order.getD k 0<16:=by decide
theorem Ln.Il(h:Ln d j f)(m a:Nat)(ws:List Int)(hne:∀i,i<16→(a+i)/8≠j):∀k,k≤16→Ln (Il d m a ws k).1 j f
 |0,_=>h
 |k+1,hk=>by
  have ih:=Ln.Il h m a ws hne k Y
  rw[Nv.Il]
  split
  ·rw[show(a:Int)+((order.getD k 0:Nat):Int)=((a+order.getD k 0:Nat):Int)by omega]
   exact ih.store m _ (hne _ (aaK k Y)) _
  ·exact ih
theorem Ln.wr(h:Ln d j f)(hI:Inv d m)(a:Nat)(ws:List Int)(hne:∀i,i<16→(a+i)/8≠j):Ln (wr d m a ws).1 j f:=by
 unfold Nv.wr;split
 ·exact(h.Il m a ws hne 16 (Bg _)).persist (hI.Il a ws 16) _ _
 ·exact h.Il m a ws hne 16 (Bg _)
theorem Ln.JB(h:Ln d j f)(m a:Nat)(hne:∀i,i<16→(a+i)/8≠j):∀k,k≤2→Ln (JB d m a k).1 j f
 |0,_=>h
 |k+1,hk=>by
  have ih:=Ln.JB h m a hne k Y
  rw[Nv.JB]
  split
  ·rw[show(a:Int)+8*(k:Int)=((a+8*k:Nat):Int)by omega]
   exact ih.store m _ (hne _ Y) _
  ·exact ih
theorem Ln.wi(h:Ln d j f)(hI:Inv d m)(a:Nat)(E:Int)(hne:∀i,i<16→(a+i)/8≠j):Ln (wi d m a E).1 j f:=by
 unfold Nv.wi;split
 ·exact h
 split
 ·exact(h.JB m a hne 2 (Bg _)).persist (hI.JB a 2) _ _
 ·exact h.JB m a hne 2 (Bg _)
theorem Ln.cm(h:Ln d j f)(hI:Inv d m)(E:Int)(k:Nat)(ws:List Int)(hne:∀i,i<16→(64+64*(1-k)+i)/8≠j):Ln (cm d m E k ws).1 j f:=by
 unfold Nv.cm;split
 ·exact h
 split
 ·exact(h.wi hI _ E hne).wr (hI.wi _ E) _ _ hne
 ·exact h.wi hI _ E hne
theorem Zy(d:D)(m:Nat)(l:Int):(flush d m l).1.cache=d.cache:=by
 unfold Nv.flush;split
 ·split
  ·rfl
  ·show(if _ then _ else _:D).cache=_
   split<;>rfl
 ·rfl
theorem Rj(m:Nat):∀(k i:Nat) (d:D),(Ed d m i k).1.cache=d.cache
 |0,_,_=>rfl
 |k+1,i,d=>by
  unfold Nv.Ed;split
  ·rw[Rj m k];exact Zy _ _ _
  ·exact Zy _ _ _
theorem Zh(d:D)(m:Nat):(fence d m).1.cache=d.cache:=by
 unfold Nv.fence;split
 ·rfl
 ·exact(Ut (Nv.stepped d) m).2.1
theorem ab8(d:D)(m:Nat)(a n:Int):(persist d m a n).1.cache=d.cache:=by
 unfold Nv.persist;split
 ·rfl
 split
 ·exact Zh _ _
 split
 ·rw[Zh];exact Rj _ _ _ _
 ·exact Rj _ _ _ _
theorem ae6{d:D}{m:Nat}{a:Nat}{v:Int}(h:(store d m a v).2=0):(store d m a v).1.cache=d.cache.set a v∧a<8*m:=by
 unfold Nv.store at h⊢
 split
 ·rename_i hr
  rw[if_pos hr]at h
  split
  ·rename_i hs;rw[if_pos hs]at h;cases h
  ·refine⟨?_,Y⟩
   show(Nv.put (Nv.stepped d) (a:Int).toNat v).cache=_
   rw[Bz];rfl
 ·rename_i hr
  rw[if_neg hr]at h;cases h
theorem aaD{d:D}{m a:Nat}{ws:List Int}(hI:Inv d m):∀k,k≤16→(Il d m a ws k).2=0→∀i,i<k→(Il d m a ws k).1.cache.getD (a+order.getD i 0) 0=ws.getD (order.getD i 0) 0
 |0,_,_,i,hi=>by omega
 |k+1,hk,h,i,hi=>by
  have hz:(Il d m a ws k).2=0:=by
   apply II
   intro hn
   rw[Nv.Il,if_neg hn]at h
   exact hn h
  have ih:=aaD hI k Y hz
  rw[Wx d m a ws k hz]at h⊢
  rw[show(a:Int)+((order.getD k 0:Nat):Int)=((a+order.getD k 0:Nat):Int)by omega]at h⊢
  obtain⟨h1,h2⟩:=ae6 h
  rw[h1,J5 _ _ _ _ _ (by rw[(hI.Il a ws k).ok.hc];exact h2)]
  split
  ·rename_i e
   rw[show order.getD i 0=order.getD k 0 by omega]
  ·rename_i e
   exact ih i (by
    have:i≠k:=fun hik=>e (by rw[hik])
    omega)
theorem acW:∀i,i<16→∃j,j<16∧order.getD j 0=i:=by decide
theorem anh{d:D}{m a:Nat}{ws:List Int}(hI:Inv d m)(h:(wr d m a ws).2=0)(i:Nat)(hi:i<16):(wr d m a ws).1.cache.getD (a+i) 0=ws.getD i 0∧(wr d m a ws).1.dirty.getD ((a+i)/8) false=false:=by
 unfold Nv.wr at h⊢
 split
 ·rename_i hz
  rw[if_pos hz]at h
  refine⟨?_,(SI (hI.Il a ws 16) h (a+i) Y Y).2⟩
  rw[ab8]
  obtain⟨q,hq,e⟩:=acW i hi
  rw[←e]
  exact aaD hI 16 (Bg _) hz q hq
 ·rename_i hz
  rw[if_neg hz]at h;exact absurd h hz
open Im
theorem Ud.Ed(m:Nat):∀(k i:Nat) (d:D),Ud d→Ud (Ed d m i k).1
 |0,_,_,h=>h
 |k+1,i,d,h=>by
  unfold Nv.Ed;split
  ·exact Ud.Ed m k _ _ (h.flush m _)
  ·exact h.flush m _
theorem Ud.persist{d:D}(h:Ud d)(m:Nat)(a n:Int):Ud (persist d m a n).1:=by
 unfold Nv.persist;split
 ·exact h
 ·split
  ·exact h.fence m
  ·split
   ·exact(Ud.Ed m _ _ _ h).fence m
   ·exact Ud.Ed m _ _ _ h
theorem aeu{ws:List Int}(h:U ws)(i:Nat):0≤ws.getD i 0∧ws.getD i 0≤18446744073709551615:=by
 simp only[List.getD]
 cases e:ws[i]? with
 |none=>simp
 |some v=>exact h v (A8 e)
theorem Ud.Il{d:D}(h:Ud d)(m a:Nat){ws:List Int}(hw:U ws):∀k,Ud (Il d m a ws k).1
 |0=>h
 |k+1=>by
  have ih:=Ud.Il h m a hw k
  rw[Nv.Il]
  split
  ·exact ih.store m _ (aeu hw _)
  ·exact ih
theorem Ud.wr{d:D}(h:Ud d)(m a:Nat){ws:List Int}(hw:U ws):Ud (wr d m a ws).1:=by
 unfold Nv.wr;split
 ·exact(h.Il m a hw 16).persist m _ _
 ·exact h.Il m a hw 16
theorem Ud.JB{d:D}(h:Ud d)(m a:Nat):∀k,Ud (JB d m a k).1
 |0=>h
 |k+1=>by
  have ih:=Ud.JB h m a k
  rw[Nv.JB]
  split
  ·exact ih.store m _ ⟨Y,Y⟩
  ·exact ih
theorem Ud.wi{d:D}(h:Ud d)(m a:Nat)(E:Int):Ud (wi d m a E).1:=by
 unfold Nv.wi;split
 ·exact h
 split
 ·exact(h.JB m a 2).persist m _ _
 ·exact h.JB m a 2
theorem Ud.cm{d:D}(h:Ud d)(m:Nat)(E:Int)(k:Nat){ws:List Int}(hw:U ws):Ud (cm d m E k ws).1:=by
 unfold Nv.cm;split
 ·exact h
 split
 ·exact(h.wi m _ E).wr m _ hw
 ·exact h.wi m _ E
end Nv
end
section
section
open Go.RowKit
theorem Heap.agS{w0 W:World}{F:List Nat}{A L:List Fp}(H:Heap w0 F (A++L) W):Heap w0 F (grp A::L) W:=by
 have e:ids (grp A::L)=ids (A++L):=by rw[EW,F8];rfl
 refine⟨fun E hE=>?_,by rw[e];exact H.nd,by rw[e];exact H.own,H.only⟩
 rcases Dq.1 hE with rfl|h
 ·exact H.part
 ·exact H.ok E (C9 _ h)
theorem Heap.abN{w0 W:World}{F:List Nat}{A L:List Fp}(H:Heap w0 F (grp A::L) W):Heap w0 F (A++L) W:=by
 have e:ids (grp A::L)=ids (A++L):=by rw[EW,F8];rfl
 refine⟨fun E hE=>?_,by rw[←e];exact H.nd,by rw[←e];exact H.own,H.only⟩
 rcases BJ.1 hE with h|h
 ·exact(H.Bl 0 rfl).1 E h
 ·exact H.ok E (Ee _ h)
end
end
section
section
open Go.Sort Go.RowKit
def lays189_ren : Go.Shelf.Ren := ⟨fun | 189 => 274 | 125 => 284 | 257 => 283 | 128 => 299 | 129 => 300 | 294 => 290 | 295 => 291 | 296 => 292 | 297 => 293 | 298 => 294 | 299 => 295 | 216 => 296 | 300 => 297 | 301 => 298 | 328 => 303 | 329 => 304 | 330 => 305 | 331 => 306 | 332 => 307 | 215 => 308 | 343 => 309 | n => n, fun | 28 => 22 | 3 => 3 | 46 => 179 | 0 => 0 | 51 => 91 | 53 => 26 | 4 => 4 | 183 => 347 | 182 => 346 | 131 => 206 | 5 => 5 | 9 => 9 | 218 => 354 | 222 => 358 | 228 => 360 | 229 => 361 | n => n, fun | n => n⟩
theorem lays189 : Go.Proofs.Lays.n189 Tryz.prog lays189_ren := {
  mixed := by kernel_rfl
  f125 := Tryz.func284.trans (congrArg some (by kernel_rfl))
  f128 := Tryz.func299.trans (congrArg some (by kernel_rfl))
  f129 := Tryz.func300.trans (congrArg some (by kernel_rfl))
  f189 := Tryz.func274.trans (congrArg some (by kernel_rfl))
  f215 := Tryz.func308.trans (congrArg some (by kernel_rfl))
  f216 := Tryz.func296.trans (congrArg some (by kernel_rfl))
  f257 := Tryz.func283.trans (congrArg some (by kernel_rfl))
  f294 := Tryz.func290.trans (congrArg some (by kernel_rfl))
  f295 := Tryz.func291.trans (congrArg some (by kernel_rfl))
  f296 := Tryz.func292.trans (congrArg some (by kernel_rfl))
  f297 := Tryz.func293.trans (congrArg some (by kernel_rfl))
  f298 := Tryz.func294.trans (congrArg some (by kernel_rfl))
  f299 := Tryz.func295.trans (congrArg some (by kernel_rfl))
  f300 := Tryz.func297.trans (congrArg some (by kernel_rfl))
  f301 := Tryz.func298.trans (congrArg some (by kernel_rfl))
  f328 := Tryz.func303.trans (congrArg some (by kernel_rfl))
  f329 := Tryz.func304.trans (congrArg some (by kernel_rfl))
  f330 := Tryz.func305.trans (congrArg some (by kernel_rfl))
  f331 := Tryz.func306.trans (congrArg some (by kernel_rfl))
  f332 := Tryz.func307.trans (congrArg some (by kernel_rfl))
  f343 := Tryz.func309.trans (congrArg some (by kernel_rfl))
  t0 := Tryz.underlying0
  a0 := Tryz.isAgg0
  z0 := Tryz.sizeOf0
  v0 := Tryz.zeroValue0
  t3 := Tryz.underlying3
  a3 := Tryz.isAgg3
  z3 := Tryz.sizeOf3
  v3 := Tryz.zeroValue3
  t4 := Tryz.underlying4
  a4 := Tryz.isAgg4
  z4 := Tryz.sizeOf4
  v4 := Tryz.zeroValue4
  t5 := Tryz.underlying5
  a5 := Tryz.isAgg5
  z5 := Tryz.sizeOf5
  v5 := Tryz.zeroValue5
  t9 := Tryz.underlying9
  a9 := Tryz.isAgg9
  z9 := Tryz.sizeOf9
  v9 := Tryz.zeroValue9
  t28 := Tryz.underlying22
  a28 := Tryz.isAgg22
  z28 := Tryz.sizeOf22
  v28 := Tryz.zeroValue22
  t46 := Tryz.underlying179
  a46 := Tryz.isAgg179
  z46 := Tryz.sizeOf179
  v46 := Tryz.zeroValue179
  t51 := Tryz.underlying91
  a51 := Tryz.isAgg91
  z51 := Tryz.sizeOf91
  v51 := Tryz.zeroValue91
  t53 := Tryz.underlying26
  a53 := Tryz.isAgg26
  z53 := Tryz.sizeOf26
  v53 := Tryz.zeroValue26
  t131 := Tryz.underlying206
  a131 := Tryz.isAgg206
  z131 := Tryz.sizeOf206
  v131 := Tryz.zeroValue206
  t182 := Tryz.underlying346
  a182 := Tryz.isAgg346
  z182 := Tryz.sizeOf346
  v182 := Tryz.zeroValue346
  t183 := Tryz.underlying347
  a183 := Tryz.isAgg347
  z183 := Tryz.sizeOf347
  v183 := Tryz.zeroValue347
  t218 := Tryz.underlying354
  a218 := Tryz.isAgg354
  z218 := Tryz.sizeOf354
  v218 := Tryz.zeroValue354
  t222 := Tryz.underlying358
  a222 := Tryz.isAgg358
  z222 := Tryz.sizeOf358
  v222 := Tryz.zeroValue358
  t228 := Tryz.underlying360
  a228 := Tryz.isAgg360
  z228 := Tryz.sizeOf360
  v228 := Tryz.zeroValue360
  t229 := Tryz.underlying361
  a229 := Tryz.isAgg361
  z229 := Tryz.sizeOf361
  v229 := Tryz.zeroValue361 }
theorem arX(blk off cap:Nat)(zs:List Int)(w:World)(hH:Holds (Value.int .i64) w blk off zs.toArray)(hblk:blk<w.heap.size)(hsz:zs.length<4611686018427387904):
 Calls prog 274 #[.slice (some ⟨blk,off,none⟩) zs.length cap] w fun e w'=>
  e= .returned (.tuple #[])∧∃n os,w'=grow (putRow (Value.int .i64) (Sort.ahead w n) blk off (zs.mergeSort fun x y=>decide (x≤y)).toArray) os:=Any.slices_Sort_int lays189 blk off cap zs w hH hblk hsz
def srt(l:List Int):List Int:=l.mergeSort fun x y=>decide (x≤y)
theorem VQ(l:List Int):(srt l).Perm l:=List.mergeSort_perm _ _
theorem an2(l:List Int):(srt l).length=l.length:=(VQ l).length_eq
theorem ac':∀{a b:List Int},a.Perm b→a.Pairwise (· ≤ ·)→b.Pairwise (· ≤ ·)→a=b
 | [],b,h,_,_=>(List.nil_perm.1 h).symm
 |x::a,[],h,_,_=>by have:=h.length_eq;simp at this
 |x::a,y::b,h,ha,hb=>by
  obtain⟨a1,a2⟩:=Q9.1 ha
  obtain⟨b1,b2⟩:=Q9.1 hb
  have e:x=y:=by
   have h1:x∈y::b:=h.mem_iff.1 J
   have h2:y∈x::a:=h.mem_iff.2 J
   rcases Dq.1 h1 with h1|h1
   ·exact h1
   ·rcases Dq.1 h2 with h2|h2
    ·exact h2.symm
    ·have:=a1 y h2;have:=b1 x h1;omega
  subst e
  rw[ac' (List.Perm.cons_inv h) a2 b2]
theorem aaL(l:List Int):(srt l).Pairwise (· ≤ ·):=by
 have h:=List.pairwise_mergeSort (le:=fun x y:Int=>decide (x≤y)) (fun a b c h1 h2=>by simp at*;omega) (fun a b=>by simp;omega) l
 exact h.imp fun h=>by simpa using h
theorem asY{a b:List Int}(h:a.Perm b):srt a=srt b:=ac' ((VQ a).trans (h.trans (VQ b).symm)) (aaL a) (aaL b)
theorem awv(A:Option Addr)(n c:Nat)(zs:List Int)(T:TypeId)(w:World)(hE:DW [Dw 1 (.slice A n c) n (zs.map (Value.int .i64)) T] w)(hn:n≤1000000):
 Calls prog 274 [.slice A n c].toArray w fun e w'=>e= .returned (.tuple #[])∧Heap w (ids [Dw 1 (.slice A n c) n (zs.map (Value.int .i64)) T]) [Dw 1 (.slice A n c) n ((srt zs).map (Value.int .i64)) T] w':=by
 have H:=Heap.start hE
 have ho:=H.IK 0 rfl
 have hl:zs.length=n:=by have:=ho.1;simpa using this
 rcases ho.2 with⟨hv,h0⟩|⟨g,cap,cur,hv,_,hg,hnc,hcm,hcs,htk⟩
 ·injection hv with h1 h2 h3
  subst h1;subst h2;subst h3
  have hz:zs=[]:=BZ hl
  subst hz
  refine(Any.slices_Sort_int_none lays189 none 0 w).mono ?_
  rintro e w' ⟨rfl,rfl⟩
  have e0:srt []=[]:=by simp[srt]
  rw[e0]
  exact⟨rfl,H⟩
 ·injection hv with h1 h2 h3
  subst h1;subst h3
  subst hl
  have am0:cur.toList.take zs.length=zs.map (Value.int .i64):=by rw[Jh]at htk;exact htk
  refine(arX g 0 c zs w (holds_of_blockI hg am0) (QW hg) Y).mono ?_
  rintro e w' ⟨rfl,m,os,rfl⟩
  have hs:=ownsRow_sortedI (w:=w) (base:=0) (n:=m) (e:=T) (os:=os) (ss:=zs) (ts:=srt zs) (an2 zs) (JK _) hg hnc hcm hcs
  have hgr:w.grownBy (grow (putRow (Value.int .i64) (Sort.ahead w m) g 0 (srt zs).toArray) os) (some g):=grownBy_sortedI _
  refine⟨rfl,H.at 0 O (F':=[g]) ⟨?_,by simp[ids,Dw,Value.ownBlock],by simp[ids,Dw,Value.ownBlock],⟨hgr.os,hgr.tape,hgr.output,hgr.size,fun k hk hne=>hgr.block k hk (fun e=>hne (by injection e with e;rw[e];simp))⟩⟩ (by simp[Dw,Value.ownBlock])⟩
  intro E hE
  rw[Bf.1 hE]
  exact hs
end
end
section
section
abbrev XO:=Nat→List Int
def Oq(S:XO)(i:Nat)(x:List Int):XO:=fun j=>if j=i then x else S j
def xsOf(F:Nat→FQ):XO:=fun i=>(F i).xs
theorem Yi(F:Nat→FQ)(i:Nat)(r:FQ):xsOf (KR F i r)=Oq (xsOf F) i r.xs:=by
 funext j;unfold xsOf KR Oq;split<;>rfl
theorem aeH(S:XO)(i:Nat)(x:List Int):Oq S i x i=x:=by unfold Oq;rw[if_pos rfl]
theorem NR(S:XO){i j:Nat}(x:List Int)(h:j≠i):Oq S i x j=S j:=by unfold Oq;rw[if_neg h]
theorem amf(S:XO)(i:Nat)(x y:List Int):Oq (Oq S i x) i y=Oq S i y:=by
 funext j;unfold Oq;split<;>rfl
def isC(k:Int):Bool:=decide (0≤k∧k<32)
def isM(m:Int):Bool:=decide (0≤m∧m<4)
def cls(S:XO)(k:Nat):List Int:=S (k*5)++S (k*5+1)++S (k*5+2)++S (k*5+3)++S (k*5+4)
def ajR(S:XO)(k a:Int):Bool:=isC k&&decide (a∈cls S k.toNat)
def afS(S:XO)(k a:Int):XO×Int:=
 if isC k=false then(S,1)else if ajR S k a=true then(S,41)else(Oq S (k.toNat*5) (S (k.toNat*5)++ [a]),0)
def MN(S:XO)(m k:Nat):XO:=
 if S (k*5+1+m)=[]then Oq (Oq S (k*5) ((S (k*5)).take ((S (k*5)).length-4))) (k*5+1+m) ((S (k*5)).drop ((S (k*5)).length-4))else S
def Zk(S:XO)(m k:Int):XO×Int×Int:=
 if isM m=false∨isC k=false then(S,0,1)
 else if MN S m.toNat k.toNat (k.toNat*5+1+m.toNat)=[]then(MN S m.toNat k.toNat,0,4)
 else(Oq (MN S m.toNat k.toNat) (k.toNat*5+1+m.toNat) ((MN S m.toNat k.toNat (k.toNat*5+1+m.toNat)).take ((MN S m.toNat k.toNat (k.toNat*5+1+m.toNat)).length-1)),(MN S m.toNat k.toNat (k.toNat*5+1+m.toNat)).getD ((MN S m.toNat k.toNat (k.toNat*5+1+m.toNat)).length-1) 0,0)
def gone(f t x:Int):Bool:=decide (f≤x∧x<t)
def stay(f t:Int)(l:List Int):List Int:=l.filter fun x=> !gone f t x
end
end
section
section
theorem aam(S:XO)(k:Nat)(z:Int):(cls S k).count z=(S (k*5)).count z+(S (k*5+1)).count z+(S (k*5+2)).count z+(S (k*5+3)).count z+(S (k*5+4)).count z:=by
 simp[cls,Gq];omega
theorem NS(S:XO)(i:Nat)(x:List Int)(j:Nat)(z:Int):(Oq S i x j).count z=if j=i then x.count z else(S j).count z:=by unfold Oq;split<;>rfl
theorem WA{S:XO}{j k:Nat}{x:List Int}(h:j/5≠k):cls (Oq S j x) k=cls S k:=by
 unfold cls
 rw[NR _ _ Y,NR _ _ Y,NR _ _ Y,NR _ _ Y,NR _ _ Y]
theorem aaM{a b:List Int}(h:∀z,a.count z=b.count z):a.Perm b:=List.perm_iff_count.2 h
theorem ab5(l:List Int)(n:Nat)(z:Int):(l.take n).count z+(l.drop n).count z=l.count z:=by rw[←Gq,F5]
theorem akt{m:Nat}(h:m<4):m=0∨m=1∨m=2∨m=3:=Y
theorem Zm(S:XO)(m k:Nat)(hm:m<4)(x:List Int)(z:Int):(cls (Oq S (k*5+1+m) x) k).count z+(S (k*5+1+m)).count z=(cls S k).count z+x.count z:=by
 rw[aam,aam]
 rw[NS,NS,NS,NS,NS]
 rcases akt hm with rfl|rfl|rfl|rfl
 ·rw[if_neg Y,if_pos Y,if_neg Y,if_neg Y,if_neg Y]
  simp only[KF];omega
 ·rw[if_neg Y,if_neg Y,if_pos Y,if_neg Y,if_neg Y]
  rw[show k*5+1+1=k*5+2 by omega];omega
 ·rw[if_neg Y,if_neg Y,if_neg Y,if_pos Y,if_neg Y]
  rw[show k*5+1+2=k*5+3 by omega];omega
 ·rw[if_neg Y,if_neg Y,if_neg Y,if_neg Y,if_pos Y]
  rw[show k*5+1+3=k*5+4 by omega];omega
theorem Yt(S:XO)(k:Nat)(x:List Int)(z:Int):(cls (Oq S (k*5) x) k).count z+(S (k*5)).count z=(cls S k).count z+x.count z:=by
 rw[aam,aam]
 rw[NS,NS,NS,NS,NS,if_pos rfl,if_neg Y,if_neg Y,if_neg Y,if_neg Y]
 omega
theorem agD(S:XO)(k:Nat)(a:Int):(cls (Oq S (k*5) (S (k*5)++ [a])) k).Perm (cls S k++ [a]):=aaM fun z=>by
 have h:=Yt S k (S (k*5)++ [a]) z
 rw[Gq]at h⊢
 omega
theorem agB(S:XO)(m k:Nat)(hm:m<4):(cls (MN S m k) k).Perm (cls S k):=aaM fun z=>by
 unfold MN
 split
 ·rename_i h
  have h1:=ab5 (S (k*5)) ((S (k*5)).length-4) z
  have h2:(S (k*5+1+m)).count z=0:=by rw[h];rfl
  have h3:=Zm (Oq S (k*5) ((S (k*5)).take ((S (k*5)).length-4))) m k hm ((S (k*5)).drop ((S (k*5)).length-4)) z
  have h4:=Yt S k ((S (k*5)).take ((S (k*5)).length-4)) z
  rw[NR _ _ (show k*5+1+m≠k*5 by omega)]at h3
  omega
 ·rfl
theorem ajH(l:List Int)(h:l≠[]):l=l.take (l.length-1)++ [l.getD (l.length-1) 0]:=by
 have hl:0<l.length:=Gn.2 h
 obtain⟨x,hx⟩:∃x,l[l.length-1]? =some x:=⟨_,Ar Y⟩
 rw[Ba,hx]
 have:=F5 (l.length-1) l
 rw[Hy Y]at this
 rw[Ar Y]at hx
 injection hx with hx
 rw[show l.length-1+1=l.length by omega,Ph,hx]at this
 exact this.symm
end
end
section
section
theorem Zr {P : Program} {k e0 e1 : TypeId} {q0 q1 : IntKind} (hu : P.underlying k = some (.struct (P.fieldsOf k))) (hf : (P.fieldsOf k).toList.map (fun f => (f.name != "_", f.type, f.offset)) = [(true, e0, 0), (true, e1, 1)]) (h0 : P.underlying e0 = some (.int q0)) (h1 : P.underlying e1 = some (.int q1))
 (hc:P.cellsOf k=2) (c0:P.cellsOf e0=1) (c1:P.cellsOf e1=1) (hkt:P.keyType k=true) (hsz:∃m,P.types.size=m+1) {a b:Int} (wa:(Lit.int q0 a).wf=true) (wb:(Lit.int q1 b).wf=true):
 ∃l,keyOf P k (.agg [.int q0 a,.int q1 b].toArray)=some l:=by
 obtain⟨m,hm⟩:=hsz
 unfold keyOf
 generalize P.fieldsOf k=fs at hu hf
 simp only[hu]
 rw[if_pos (by simp[hkt,Value.formed,hu,hc]),hm]
 obtain⟨l⟩:=fs
 simp only at hf
 obtain⟨f1,f2,rfl⟩:∃f1 f2,l=[f1,f2]:=by
  have:=congrArg List.length hf
  simp only[Ci,Em,Jy]at this
  rcases l with _|⟨f1,_|⟨f2,_|⟨f3,l⟩⟩⟩
  ·simp at this
  ·simp at this
  ·exact⟨f1,f2,rfl⟩
  ·simp at this
 simp only[Dx,D5,P6,SH,and_true,bne_iff_ne]at hf
 obtain⟨⟨n1,rfl,o1⟩,n2,rfl,o2⟩:=hf
 unfold Program.keyLits
 simp only[hu,Value.cells]
 rw[if_pos ⟨by rw[hc];rfl,by simp[n1,n2]⟩]
 simp[List.mapM_cons,o1,o2,c0,c1,Program.keyLits,h0,h1,wa,wb]
theorem afr{k0 k1:IntKind}{a b:Int×Int}(h:Value.agg [.int k0 a.1,.int k1 a.2].toArray=Value.agg [.int k0 b.1,.int k1 b.2].toArray):a=b:=by
 obtain⟨a1,a2⟩:=a
 obtain⟨b1,b2⟩:=b
 simp at h
 simp[h.1,h.2]
end
end
section
section
open Go.RowKit
end
end
section
section
open Go.RowKit
abbrev abE(p:Nat):Value:= .pointer (some ⟨p,0,none⟩)
theorem atA:laidOutB prog=true:=by kernel_rfl
theorem atb:Go.Maps.Keyed prog 324:=Go.Maps.Keyed.of_law (deep_law_laid atA (m:=2) Y (of_decide_eq_true Ak) Ak (by rw[underlying324]))
def wf64(a:Int):Prop:= -9223372036854775808≤a∧a≤9223372036854775807
def kF:KC prog 324 (Int×Int):=
 ⟨fun a=> .agg [.int .i64 a.1,.int .i64 a.2].toArray,fun a=>wf64 a.1∧wf64 a.2,atb,fun a ha=>Zr Ak Ak underlying3 underlying3 Ak Ak Ak Ak ⟨prog.types.size-1,by kernel_rfl⟩ (wf_i64 ha.1) (wf_i64 ha.2),fun a b=>afr⟩
abbrev FrM:=List ((Int×Int)×FQ)
def frC(G:Nat→FQ)(b:Nat):List Value:=fnC 33 fun i=>if i=32 then .map (some b)else(G (i*5)).v
def frE(p b:Nat)(G F:Nat→FQ)(l:FrM):List Fp:=[blk p (frC G b) 314,mp kF FQ.v b l,fam 3 160 F]
theorem KO{G:Nat→FQ}{b k:Nat}(hk:k<32):(frC G b)[k]? =some (.slice (G (k*5)).A (G (k*5)).n (G (k*5)).c):=by
 unfold frC;rw[aiB Y,if_neg Y];rfl
theorem Kr(G:Nat→FQ)(b:Nat):(frC G b)[32]? =some (.map (some b)):=by
 unfold frC;rw[aiB Y,if_pos rfl]
theorem aao{G:Nat→FQ}{b k:Nat}{r:FQ}(hk:k<32):(frC G b).set k (.slice r.A r.n r.c)=frC (KR G (k*5) r) b:=by
 unfold frC
 rw[apx]
 refine Y0 fun i hi=>?_
 unfold KR
 by_cases e:i=k
 ·subst e;rw[if_pos rfl,if_neg Y,if_pos rfl];rfl
 ·rw[if_neg e]
  by_cases e2:i=32
  ·rw[if_pos e2,if_pos e2]
  ·rw[if_neg e2,if_neg e2,if_neg Y]
structure Qq (F:Nat→FQ) (l:FrM) (N:Nat):Prop where
 keys:∀x∈l,0≤x.1.1∧x.1.1<4∧0≤x.1.2∧x.1.2<32
 got:∀m k:Nat,m<4→k<32→Ij l ((m:Int),(k:Int))=some (F (k*5+1+m))∨Ij l ((m:Int),(k:Int))=none∧F (k*5+1+m)=FQ.nil
 len:∀i,i<160→(F i).n≤N
theorem agN(k:Int)(w:World):Calls prog 197 [.int .i64 k].toArray w fun e w'=>e= .returned (.bool (isC k))∧Only [] w w':=by
 have H:=Heap.nil w
 unfold isC
 by_cases h1:0≤k
 ·by_cases h2:k<32
  ·rw[decide_eq_true ⟨h1,h2⟩]
   refine BM 9 func197 O (qU ?_)
   refine Aw (kK ?_)
   refine AX 5 O (Fz O) (AX 5 O (Df O O Y) (oJ ?_))
   exact⟨rfl,H.only⟩
  ·rw[decide_eq_false (fun h=>h2 h.2)]
   refine BM 9 func197 O (qU ?_)
   refine Aw (kK ?_)
   refine AX 5 O (Fz O) (AX 5 O (CO O O Y) (oJ ?_))
   exact⟨rfl,H.only⟩
 ·rw[decide_eq_false (fun h=>h1 h.1)]
  refine BM 9 func197 O (qU ?_)
  refine Aw (uI ?_)
  refine Cc 5 O O (Cc 5 O O (Dp O O (gZ ?_)))
  exact⟨rfl,H.only⟩
theorem arp(m k:Int)(w:World):Calls prog 264 [.int .i64 m,.int .i64 k].toArray w fun e w'=>e= .returned (.bool (isM m&&isC k))∧Only [] w w':=by
 have H:=Heap.nil w
 have hC:=fun W=>agN k W
 unfold isM
 by_cases h1:0≤m
 ·by_cases h2:m<4
  ·rw[decide_eq_true ⟨h1,h2⟩,GL]
   cases hk:isC k with
   |true=>
    simp only[hk]at hC
    refine sS ?_
    rintro e W1 ⟨rfl,H'⟩
    refine⟨_,rfl,?_⟩
    have H:=H.same H';clear H'
    refine oJ ?_
    exact⟨rfl,H.only⟩
   |false=>
    simp only[hk]at hC
    refine sS ?_
    rintro e W1 ⟨rfl,H'⟩
    refine⟨_,rfl,?_⟩
    have H:=H.same H';clear H'
    refine oJ ?_
    exact⟨rfl,H.only⟩
  ·rw[decide_eq_false (fun h=>h2 h.2),Jf]
   refine BM 15 func264 O (qU ?_)
   refine Aw (kK ?_)
   refine AX 7 O (Fz O) (AX 7 O (CO O O Y) (ED O O (BL O (Cc 11 O O (Cc 11 O O (Dp O O (gZ ?_)))))))
   exact⟨rfl,H.only⟩
 ·rw[decide_eq_false (fun h=>h1 h.1),Jf]
  refine BM 15 func264 O (qU ?_)
  refine Aw (uI ?_)
  refine Cc 7 O O (Cc 7 O O (Dp O O (BL O (Cc 11 O O (Cc 11 O O (Dp O O (gZ ?_)))))))
  exact⟨rfl,H.only⟩
theorem asI(A:Option Addr)(n c:Nat)(l:List Int)(x:Int)(w:World)(hS:Gm (Value.int .i64) w [] A l)(hl:l.length=n)(hn:n≤1000000):
 Calls prog 289 [.slice A n c,.int .i64 x].toArray w fun e w'=>(∃r,e= .returned (.int .i64 r)∧(x∉l∧r= -1∨x∈l∧0≤r))∧Only [] w w':=by
 have H:=Heap.nil w
 refine BM 19 func289 O (Aw (AQ O (Au (uj ?_))))
 refine Ec (fun z f W=>∃(i:Nat),i≤n∧z=n-i∧x∉l.take i∧f 0= .slice A n c∧f 1= .int .i64 x∧f 7= .int .i64 n∧f 8= .int .i64 i∧Heap w [] [] W) n ⟨0,Y,rfl,J,rfl,rfl,rfl,rfl,H⟩ ?_
 clear H
 rintro z f W ⟨i,hi,rfl,hno,f0,f1,f7,f8,H⟩
 obtain⟨f,rfl⟩:=Ih f0 f1 f7 f8
 clear f0 f1 f7 f8
 by_cases hlt:i<n
 ·obtain⟨y,hy⟩:∃y,l[i]? =some y:=⟨_,Ar Y⟩
  obtain⟨b,o,rfl,_,hrd⟩:=hS Y
  have hc:=hrd i y hy
  by_cases e:x=y
  ·refine xM ?_
   refine AL (Fv O O Y) (ql ?_)
   refine Az O (AQ O (Au (BH (Fe (CX (CX (Fe (CX (aQ ?_)))))))))
   exact⟨⟨_,rfl,.inr ⟨by rw[e];exact A8 hy,Y⟩⟩,H.only⟩
  ·refine xM ?_
   refine AL (Fb O O Y) (Au (nM ?_))
   refine⟨_,_,?_,rfl,i+1,Y,rfl,?_,rfl,rfl,rfl,rfl,H⟩
   ·omega
   ·rw[←Jc hy];simp[hno,e]
 ·obtain rfl:i=n:=Y
  rw[show l.take i=l by rw[←hl];exact DL]at hno
  refine uS ?_
  refine fH ?_
  exact⟨⟨_,rfl,.inl ⟨hno,rfl⟩⟩,H.only⟩
theorem ajO(A:Option Addr)(n c:Nat)(l:List Int)(x:Int)(w:World)(hS:Gm (Value.int .i64) w [] A l)(hl:l.length=n)(hn:n≤1000000):
 Calls prog 282 [.slice A n c,.int .i64 x].toArray w fun e w'=>e= .returned (.bool (decide (x∈l)))∧Only [] w w':=by
 have H:=Heap.nil w
 have hI:=fun{W:World} (h:Only [] w W)=>asI A n c l x W (hS.later h J) hl hn
 by_cases hx:x∈l
 ·rw[decide_eq_true hx]
  refine BM 9 func282 O (qU ?_)
  refine Aw (CY O (Az O (s_call O (hI H.only) (aqM O) ?_)))
  rintro e W1 ⟨⟨r,rfl,hr⟩,H'⟩
  refine⟨_,rfl,?_⟩
  have H:=H.same H';clear H';have h0:0≤r:=hr.elim (fun h=>(h.1 hx).elim) (fun h=>h.2)
  refine AL (G8 O O Y) (gZ ?_)
  exact⟨rfl,H.only⟩
 ·rw[decide_eq_false hx]
  refine BM 9 func282 O (qU ?_)
  refine Aw (CY O (Az O (s_call O (hI H.only) (aqM O) ?_)))
  rintro e W1 ⟨⟨r,rfl,hr⟩,H'⟩
  refine⟨_,rfl,?_⟩
  have H:=H.same H';clear H';have h0:r= -1:=hr.elim (fun h=>h.2) (fun h=>(hx h.1).elim)
  refine AL (F7 O O Y) (gZ ?_)
  exact⟨rfl,H.only⟩
theorem QH(A:Option Addr)(n c:Nat)(l:List Int)(w:World)(hS:Gm (Value.int .i64) w [] A l)(hl:l.length=n)(hn:n≤1000000):
 Calls prog 265 [.slice A n c].toArray w fun e w'=>∃A' c',e= .returned (.slice A' n c')∧Heap w [] [Dw 1 (.slice A' n c') n (l.map (Value.int .i64)) 3] w':=by
 have H:=Heap.nil w
 cases A with
 |none=>
  have h0:l.length=0:=by
   rcases Ii l.length with h0|h0
   ·exact h0
   ·obtain⟨q,r,e0,_⟩:=hS Y;cases e0
  obtain rfl:l=[]:=BZ h0
  obtain rfl:n=0:=by simpa using hl.symm
  refine BM 8 func265 O (Aw (En O (Au (AP (Aw (CY O (AL (afg O O underlying22) (ql ?_))))))))
  refine En O (Au (BH (CX (iK ?_))))
  exact⟨none,0,rfl,H.G6 1 3⟩
 |some a=>
  refine BM 8 func265 O (Aw (En O (Au (AP (Aw (CY O (AL (abU O O underlying22) (dX ?_))))))))
  refine Aw (aiz 1 Y H O underlying22 GI ?_)
  intro _ _ H';clear H;have H:=H';clear H'
  refine CY O (agQ (enc:=(Value.int .i64)) (xs:=[]) H 0 O O O O (hS) (hl) (fun _=>rfl) Y underlying22 GI O ?_)
  clear H;intro A1 c1 _ hA H;simp only[Bv,Nat.reduceAdd]at H
  refine oZ ?_
  rw[DT]at H
  exact⟨A1,c1,by rw[DT],H⟩
end
end
section
section
open Go.RowKit
def PL:Nat→FQ:=fun _=>FQ.nil
theorem ank:Qq PL [] 0:=⟨J,fun m k _ _=> .inr ⟨rfl,rfl⟩,fun i _=>Bg _⟩
theorem Heap.apj{w0 W:World}{Fr:List Nat}{L:List Fp}(H:Heap w0 Fr L W)(T:TypeId)(N:Nat):Heap w0 Fr (fam T N PL::L) W:=by
 have h0:ids (Pj T N PL)=[]:=by
  unfold ids Pj
  rw[List.flatMap_map]
  exact List.flatMap_eq_nil_iff.2 fun i _=>rfl
 refine H.more (A:=[fam T N PL]) ⟨fun E hE=>?_,?_,?_,Only.refl _ _⟩
 ·rw[Bf.1 hE]
  refine⟨fun X hX=>?_,by rw[h0];simp⟩
  unfold Pj at hX
  obtain⟨i,_,rfl⟩:=BX.1 hX
  exact World.ownsRow_nil W 0 T 1
 ·show(ids [fam T N PL]).Nodup
  rw[show ids [fam T N PL]=ids (Pj T N PL)++ []from rfl,h0];simp
 ·intro i hi
  rw[show ids [fam T N PL]=ids (Pj T N PL)++ []from rfl,h0]at hi
  simp at hi
theorem auz(w:World):Calls prog 183 [].toArray w fun e w'=>∃p b,e= .returned (abE p)∧Heap w [] (frE p b PL PL []) w':=by
 have H:=Heap.nil w
 refine BM 4 func183 O (Aw (EX O (Au (Aw (agR kF FQ.v H O ?_)))))
 intro b1 _ H';clear H;have H:=H';clear H'
 refine AL (FP (apO _) O) (DU H O O fun p3 _ H=>uq ?_)
 replace H:=H.apj 3 160
 exact⟨p3,b1,rfl,H.order [1,2,0] rfl rfl⟩
theorem apw(S:XO)(k:Nat)(a:Int):a∈cls S k↔a∈S (k*5)∨∃m:Nat,m<4∧a∈S (k*5+1+m):=by
 unfold cls
 simp only[BJ]
 constructor
 ·rintro((((h|h)|h)|h)|h)
  ·exact .inl h
  ·exact .inr ⟨0,Y,h⟩
  ·exact .inr ⟨1,Y,h⟩
  ·exact .inr ⟨2,Y,h⟩
  ·exact .inr ⟨3,Y,h⟩
 ·rintro(h|⟨m,hm,h⟩)
  ·exact .inl (.inl (.inl (.inl h)))
  ·rcases(by omega:m=0∨m=1∨m=2∨m=3)with rfl|rfl|rfl|rfl
   ·exact .inl (.inl (.inl (.inr h)))
   ·exact .inl (.inl (.inr h))
   ·exact .inl (.inr h)
   ·exact .inr h
theorem adL{k:Int}(h:isC k=true):∃j:Nat,k=(j:Int)∧j<32:=by
 have:=of_decide_eq_true h
 exact⟨k.toNat,Y,Y⟩
theorem aon{k:Int}(h:isM k=true):∃j:Nat,k=(j:Int)∧j<4:=by
 have:=of_decide_eq_true h
 exact⟨k.toNat,Y,Y⟩
theorem gdF{m k:Nat}(hm:m<4)(hk:k<32):kF.Gd ((m:Int),(k:Int)):=⟨⟨by show _≤(m:Int);omega,by show(m:Int)≤_;omega⟩,⟨by show _≤(k:Int);omega,by show(k:Int)≤_;omega⟩⟩
section
variable{p b N:Nat}{F:Nat→FQ}{l:FrM}{w:World}
theorem axl(hE:DW (frE p b F F l) w)(hok:Qq F l N)(hN:N≤100000)(k a:Int):
 Calls prog 271 [abE p,.int .i64 k,.int .i64 a].toArray w fun e w'=>e= .returned (.bool (ajR (xsOf F) k a))∧Only [] w w':=by
 have HR:=Heap.start hE
 have H:=Heap.nil w
 have hC:=fun W=>agN k W
 unfold ajR
 unfold frE at HR
 cases hk:isC k with
 |false=>
  simp only[hk]at hC
  refine BM 33 func271 O (qU ?_)
  refine fJ ?_
  refine BI H O (hC _) (Zo O) fun W1 H=>AL (Jm O) (iD ?_)
  exact⟨rfl,H.only⟩
 |true=>
  simp only[hk]at hC
  obtain⟨j,rfl,hj⟩:=adL hk
  rw[Bz,GL]
  have hCo:=fun i (hi:i<160) {W:World} (h:Only [] w W)=>ajO (F i).A (F i).n (F i).c (F i).xs a W ((alo HR 2 rfl hi).later h J) (aaq HR 2 rfl hi) (by have:=hok.len i hi;omega)
  have hmem:=apw (xsOf F) j a
  by_cases h0:a∈(F (j*5)).xs
  ·rw[decide_eq_true (hmem.2 (.inl h0))]
   have hC0:=fun{W:World} h=>hCo (j*5) Y (W:=W) h
   simp only[decide_eq_true h0]at hC0
   refine BM 33 func271 O (qU ?_)
   refine fJ ?_
   refine BI H O (hC _) (Zo O) fun W1 H=>qo ?_
   refine BI H O (hC0 H.only) (agl O) fun W1 H=>iD ?_
   exact⟨rfl,H.only⟩
  ·have hC0:=fun{W:World} h=>hCo (j*5) Y (W:=W) h
   simp only[decide_eq_false h0]at hC0
   refine BM 33 func271 O (qU ?_)
   refine fJ ?_
   refine BI H O (hC _) (Zo O) fun W1 H=>qo ?_
   refine BI H O (hC0 H.only) (agl O) fun W1 H=>dX ?_
   refine fJ ?_
   refine Au (E8 (Ec (fun z f W=>∃(i:Nat),i≤4∧z=4-i∧(∀m:Nat,m<i→a∉(F (j*5+1+m)).xs)∧f 0=abE p∧f 1= .int .i64 j∧f 2= .int .i64 a∧f 19= .int .i64 i∧Heap w [] [] W) 4 ⟨0,Y,rfl,Y,rfl,rfl,rfl,rfl,H⟩ ?_))
   clear H
   rintro z f W ⟨i,hi,rfl,hno,f0,f1,f2,f19,H⟩
   obtain⟨f,rfl⟩:=Ih f0 f1 f2 f19
   clear f0 f1 f2 f19
   by_cases hlt:i<4
   ·have gd:=gdF hlt hj
    have hC1:=fun{W:World} h=>hCo (j*5+1+i) Y (W:=W) h
    rcases hok.got i j hlt hj with hg|⟨hg,hnil⟩
    ·by_cases h1:a∈(F (j*5+1+i)).xs
     ·rw[decide_eq_true (hmem.2 (.inr ⟨i,hlt,h1⟩))]
      simp only[decide_eq_true h1]at hC1
      refine xu ?_
      refine BI H O (hC1 H.only) (agl O) fun W1 H=>wG ?_
      refine jo ?_
      exact⟨rfl,H.only⟩
     ·simp only[decide_eq_false h1]at hC1
      refine xu ?_
      refine BI H O (hC1 H.only) (agl O) fun W1 H=>Au (nM ?_)
      refine⟨_,_,?_,rfl,i+1,Y,rfl,fun m hm=>?_,rfl,rfl,rfl,rfl,H⟩
      ·omega
      ·by_cases e:m=i
       ·subst e;exact h1
       ·exact hno m Y
    ·rw[hnil]at hC1
     have h1:a∉FQ.nil.xs:=by simp[FQ.nil]
     simp only[decide_eq_false h1]at hC1
     refine lW ?_
     refine AQ O (Au (nT ?_))
     refine AL (aqk (HR.same H.only) 1 O O O (gd) (hg) underlying311 (JL UU)) (Az O (BI H O (hC1 H.only) (agl O) fun W1 H=>Au (nM ?_)))
     refine⟨_,_,?_,rfl,i+1,Y,rfl,fun m hm=>?_,rfl,rfl,rfl,rfl,H⟩
     ·omega
     ·by_cases e:m=i
      ·subst e;rw[hnil];exact h1
      ·exact hno m Y
   ·obtain rfl:i=4:=Y
    rw[decide_eq_false (fun h=>(hmem.1 h).elim h0 (fun⟨m,hm,h2⟩=>hno m hm h2))]
    refine uS ?_
    refine gZ ?_
    exact⟨rfl,H.only⟩
end
end
end
section
section
open Go.RowKit
theorem Qq.mono{F:Nat→FQ}{l:FrM}{N M:Nat}(h:Qq F l N)(hM:N≤M):Qq F l M:=⟨h.keys,h.got,fun i hi=>F9 (h.len i hi) hM⟩
theorem Qq.avP{F:Nat→FQ}{l:FrM}{N k:Nat}(h:Qq F l N){r:FQ}(hr:r.n≤N):Qq (KR F (k*5) r) l N:=
 ⟨h.keys,fun m j hm hj=>by rw[OG _ _ Y];exact h.got m j hm hj,fun i hi=>by
  by_cases e:i=k*5
  ·rw[e,TY];exact hr
  ·rw[OG _ _ e];exact h.len i hi⟩
theorem Wp{α β:Type}[DecidableEq α]:∀(l:List (α×β)) (a:α) (v:β),Ij (Lp l a v) a=some v
 | [],a,v=>by simp[Lp,Ij]
 |p::l,a,v=>by
  unfold Lp
  split
  ·simp[Ij]
  ·rename_i h
   rw[Ij,if_neg h];exact Wp l a v
theorem YU{α β:Type}[DecidableEq α]:∀(l:List (α×β)) (a b:α) (v:β),b≠a→Ij (Lp l a v) b=Ij l b
 | [],a,b,v,h=>by simp[Lp,Ij,Ne.symm h]
 |p::l,a,b,v,h=>by
  unfold Lp
  split
  ·rename_i e
   subst e
   simp[Ij,Ne.symm h]
  ·rw[Ij,Ij,YU l a b v h]
theorem afm{α β:Type}[DecidableEq α]:∀(l:List (α×β)) (a:α) (v:β) (x:α×β),x∈Lp l a v→x=(a,v)∨x∈l
 | [],a,v,x,h=>by simp[Lp]at h;exact .inl h
 |p::l,a,v,x,h=>by
  unfold Lp at h
  split at h
  ·rcases Dq.1 h with h|h
   ·exact .inl h
   ·exact .inr (Ee _ h)
  ·rcases Dq.1 h with h|h
   ·exact .inr (by rw[h];simp)
   ·exact(afm l a v x h).imp id (Ee _)
theorem Qq.own{F:Nat→FQ}{l:FrM}{N m k:Nat}(h:Qq F l N)(hm:m<4)(hk:k<32){r:FQ}(hr:r.n≤N):Qq (KR F (k*5+1+m) r) (Lp l ((m:Int),(k:Int)) r) N:=by
 refine⟨fun x hx=>?_,fun m' k' hm' hk'=>?_,fun i hi=>?_⟩
 ·rcases afm _ _ _ x hx with rfl|hx
  ·exact⟨by show(0:Int)≤(m:Int);omega,by show(m:Int)<4;omega,by show(0:Int)≤(k:Int);omega,by show(k:Int)<32;omega⟩
  ·exact h.keys x hx
 ·by_cases e:m'=m∧k'=k
  ·obtain⟨rfl,rfl⟩:=e
   rw[Wp,TY];exact .inl rfl
  ·have hne:((m':Int),(k':Int))≠((m:Int),(k:Int)):=fun e2=>e (by injection e2 with a b;exact⟨Y,Y⟩)
   rw[YU _ _ _ _ hne,OG _ _ Y]
   exact h.got m' k' hm' hk'
 ·by_cases e:i=k*5+1+m
  ·rw[e,TY];exact hr
  ·rw[OG _ _ e];exact h.len i hi
def apJ(p b:Nat)(F:Nat→FQ)(l:FrM)(N:Nat)(S':XO)(w w':World):Prop:=∃F' l',Heap w (ids (frE p b F F l)) (frE p b F' F' l') w'∧Qq F' l' N∧xsOf F'=S'
section
variable{p b N:Nat}{F:Nat→FQ}{l:FrM}{w:World}
theorem av5(hE:DW (frE p b F F l) w)(hok:Qq F l N)(hN:N≤100000)(k a:Int):
 Calls prog 231 [abE p,.int .i64 k,.int .i64 a].toArray w fun e w'=>e= .returned (.int .i64 (afS (xsOf F) k a).2)∧apJ p b F l (N+1) (afS (xsOf F) k a).1 w w':=by
 have H:=Heap.start hE
 have hC:=fun W=>agN k W
 have hHa:=fun{W:World} hE=>axl (p:=p) (b:=b) (F:=F) (l:=l) (w:=W) hE hok Y k a
 unfold afS
 cases hk:isC k with
 |false=>
  simp only[hk]at hC
  rw[if_pos rfl]
  refine BM 30 func231 O (Aw (kU ?_))
  refine BI H O (hC _) (Zo O) fun W1 H=>AL (Jm O) (lU ?_)
  exact⟨rfl,F,l,H,hok.mono Y,rfl⟩
 |true=>
  simp only[hk]at hC
  rw[if_neg J]
  by_cases hh:ajR (xsOf F) k a=true
  ·rw[if_pos hh]
   rw[hh]at hHa
   refine BM 30 func231 O (Aw (kU ?_))
   refine BI H O (hC _) (Zo O) fun W1 H=>AL (EM O) (BN O (Au (DX O (jl ?_))))
   refine Az O (BI H O (hHa H.ents) (ap2 O) fun W1 H=>lU ?_)
   exact⟨rfl,F,l,H,hok.mono Y,rfl⟩
  ·have hh:ajR (xsOf F) k a=false:=by simpa using hh
   rw[if_neg (by rw[hh];simp)]
   rw[hh]at hHa
   obtain⟨j,rfl,hj⟩:=adL hk
   rw[Bz]
   have hNi:=hok.len (j*5) Y
   refine BM 30 func231 O (Aw (kU ?_))
   refine BI H O (hC _) (Zo O) fun W1 H=>AL (EM O) (BN O (Au (DX O (jl ?_))))
   refine Az O (BI H O (hHa H.ents) (ap2 O) fun W1 H=>uQ ?_)
   refine AP ?_
   obtain⟨I,hI⟩:∃I,ids (frE p b F F l)=I:=⟨_,rfl⟩
   rw[hI]at H
   unfold frE at H
   have hln:=aaq H 2 rfl (i:=j*5) Y
   replace H:=H.pull 2 rfl (i:=j*5) Y
   simp only[Bv]at H
   unfold QN at H
   have hG:∀{W':World} {A2 c2},Heap w I [Dw 1 (.slice A2 ((F (j*5)).n+1) c2) ((F (j*5)).n+1) (((F (j*5)).xs++ [a]).map (Value.int .i64)) 3,blk p (frC (KR F (j*5) ⟨A2,(F (j*5)).n+1,c2,(F (j*5)).xs++ [a]⟩) b) 314,mp kF FQ.v b l,fam 3 160 (KR F (j*5) FQ.nil)] W'→apJ p b F l (N+1) (Oq (xsOf F) (j*5) (xsOf F (j*5)++ [a])) w W':=fun{W' A2 c2} H=>by
    have H2:=Heap.push (r:=⟨A2,(F (j*5)).n+1,c2,(F (j*5)).xs++ [a]⟩) H 2 rfl (i:=j*5) Y (TY _ _ _)
    rw[abB]at H2
    refine⟨KR F (j*5) ⟨A2,(F (j*5)).n+1,c2,(F (j*5)).xs++ [a]⟩,l,by rw[hI];exact H2,(hok.mono Y).avP (by show(F (j*5)).n+1≤_;omega),by rw[Yi];rfl⟩
   refine Gu mixed ?_;replace H:=H.drew
   refine qh ?_
   refine Eo 1 O O O (fun _ hS=>BP (v:= .int _ _) O) trivial (sG ?_)
   refine Eo 4 O O O (fun _ hS=>ES O) trivial (Eo 5 O O O (fun _ hS=>CB O OU) trivial (Eo 6 O O O (fun _ hS=>OY (i:=j) O O Y Y underlying312 Lh) trivial (Eo 8 O O O (fun _ hS=>BP (v:= .int _ _) O) trivial (Eo 11 O O O (fun _ hS=>ES O) trivial (Eo 12 O O O (fun _ hS=>CB O OU) trivial ?_)))))
   refine D6 7 9 ?_ ?_
   ·refine BO O (AL (Ef H 1 O O (KO hj) Fg) (aj ?_))
    refine Bd 9 O (sF ?_)
    intro q9 _ H';clear H;have H:=H';clear H'
    refine qC ?_
    refine nD ?_
    clear H;intro A2 c2 _ H;simp only[Bv,Nat.reduceAdd]at H
    refine aj ?_
    refine ni ?_
    clear H;refine ayJ fun _ H=>?_
    refine aj ?_
    refine CJ (AO (Aw (fH ?_)))
    exact⟨rfl,hG H⟩
   ·refine BO O (sF ?_)
    intro q9 _ H';clear H;have H:=H';clear H'
    refine o7 ?_
    refine AL (Ef H 2 O O (KO hj) Fg) (qC ?_)
    refine nD ?_
    clear H;intro A2 c2 _ H;simp only[Bv,Nat.reduceAdd]at H
    refine aj ?_
    refine ni ?_
    clear H;refine ayJ fun _ H=>?_
    refine aj ?_
    refine CJ (AO (Aw (fH ?_)))
    exact⟨rfl,hG H⟩
theorem awL(a b:Int):(if b<a then b else a)=min a b:=by split<;>omega
theorem amK(hE:DW (frE p b F F l) w)(hok:Qq F l N)(hN:N≤100000)(m k:Int):
 Calls prog 217 [abE p,.int .i64 m,.int .i64 k].toArray w fun e w'=>e= .returned (.tuple [.int .i64 (Zk (xsOf F) m k).2.1,.int .i64 (Zk (xsOf F) m k).2.2].toArray)∧apJ p b F l (N+4) (Zk (xsOf F) m k).1 w w':=by
 have H:=Heap.start hE
 have hC:=fun W=>arp m k W
 unfold Zk
 by_cases hb:isM m=false∨isC k=false
 ·rw[if_pos hb]
  have e:(isM m&&isC k)=false:=by rcases hb with h|h<;>simp[h]
  simp only[e]at hC
  refine BM 96 func217 O (Aw (AQ O (jk ?_)))
  refine Az O (BI H O (hC _) (amG O) fun W1 H=>AL (Jm O) (ql ?_))
  refine uD ?_
  exact⟨rfl,F,l,H,hok.mono Y,rfl⟩
 ·rw[if_neg hb]
  have hm:isM m=true:=by cases h:isM m<;>simp[h]at hb⊢
  have hk:isC k=true:=by cases h:isC k<;>simp[h]at hb⊢
  have e:(isM m&&isC k)=true:=by rw[hm,hk];rfl
  simp only[e]at hC
  obtain⟨m,rfl,hm4⟩:=aon hm
  obtain⟨k,rfl,J6⟩:=adL hk
  rw[Bz,Bz]
  have gd:=gdF hm4 J6
  obtain⟨I,hI⟩:∃I,ids (frE p b F F l)=I:=⟨_,rfl⟩
  rw[hI]at H
  unfold frE at H
  have akd:=aaq H 2 rfl (i:=k*5+1+m) Y
  have atY:=aaq H 2 rfl (i:=k*5) Y
  have aup:=hok.len (k*5+1+m) Y
  have ayA:=hok.len (k*5) Y
  replace H:=H.pull 2 rfl (i:=k*5+1+m) Y
  simp only[Bv]at H
  by_cases h0:(F (k*5+1+m)).n=0
  ·
   have hx0:xsOf F (k*5+1+m)=[]:=BZ (by show(F (k*5+1+m)).xs.length=0;omega)
   obtain⟨fr,hfr⟩:∃fr,(F (k*5)).n-4=fr:=⟨_,rfl⟩
   have VO:MN (xsOf F) m k=Oq (Oq (xsOf F) (k*5) ((F (k*5)).xs.take fr)) (k*5+1+m) ((F (k*5)).xs.drop fr):=by
    unfold MN
    rw[if_pos hx0]
    show Oq (Oq (xsOf F) (k*5) ((F (k*5)).xs.take ((F (k*5)).xs.length-4))) (k*5+1+m) ((F (k*5)).xs.drop ((F (k*5)).xs.length-4))=_
    rw[atY,hfr]
   rw[VO]
   rw[aeH]
   replace H:=H.drop
   replace H:=H.pull 2 rfl (i:=k*5) Y
   simp only[Bv]at H
   rw[OG _ _ (show k*5≠k*5+1+m by omega)]at H
   have hcg:=Yw H 0 rfl
   unfold QN at H
   have ZE:((F (k*5)).n:Int)-min ((F (k*5)).n:Int) 4=(fr:Int):=Y
   have hG:∀{l2:FrM} {r1:FQ} {W':World},Qq (KR (KR F (k*5) ⟨(F (k*5)).A,fr,(F (k*5)).c,(F (k*5)).xs.take fr⟩) (k*5+1+m) r1) l2 (N+4)→Heap w I [QN 3 r1,Dw 1 (.slice (F (k*5)).A (F (k*5)).n (F (k*5)).c) (F (k*5)).n ((F (k*5)).xs.map (Value.int .i64)) 3,blk p (frC (KR F (k*5) ⟨(F (k*5)).A,fr,(F (k*5)).c,(F (k*5)).xs.take fr⟩) b) 314,mp kF FQ.v b l2,fam 3 160 (KR (KR F (k*5+1+m) FQ.nil) (k*5) FQ.nil)] W'→apJ p b F l (N+4) (Oq (Oq (xsOf F) (k*5) ((F (k*5)).xs.take fr)) (k*5+1+m) r1.xs) w W':=fun{l2 r1 W'} hok2 H=>by
    have h1:=Xi (r:=F (k*5)) (m:=fr) H 1 rfl Y
    simp only[Bv]at h1
    have h2:=Heap.push h1 3 rfl (i:=k*5+1+m) Y (by rw[OG _ _ Y,TY])
    simp only[Bv]at h2
    have h3:=Heap.push h2 2 rfl (i:=k*5) Y (by rw[OG _ _ Y,TY])
    simp only[Bv]at h3
    have eF:KR (KR (KR (KR F (k*5+1+m) FQ.nil) (k*5) FQ.nil) (k*5+1+m) r1) (k*5) ⟨(F (k*5)).A,fr,(F (k*5)).c,(F (k*5)).xs.take fr⟩=KR (KR F (k*5) ⟨(F (k*5)).A,fr,(F (k*5)).c,(F (k*5)).xs.take fr⟩) (k*5+1+m) r1:=by
     funext i
     unfold KR
     by_cases e1:i=k*5
     ·subst e1
      rw[if_pos rfl,if_neg Y,if_pos rfl]
     ·rw[if_neg e1]
      by_cases e2:i=k*5+1+m
      ·rw[if_pos e2,if_pos e2]
      ·rw[if_neg e2,if_neg e1,if_neg e2,if_neg e2,if_neg e1]
    rw[eF]at h3
    refine⟨_,l2,?_,hok2,by rw[Yi,Yi]⟩
    rw[hI]
    unfold frE
    have e5:frC (KR F (k*5) ⟨(F (k*5)).A,fr,(F (k*5)).c,(F (k*5)).xs.take fr⟩) b=frC (KR (KR F (k*5) ⟨(F (k*5)).A,fr,(F (k*5)).c,(F (k*5)).xs.take fr⟩) (k*5+1+m) r1) b:=by
     unfold frC
     refine Y0 fun i hi=>?_
     split
     ·rfl
     ·rw[OG (i:=k*5+1+m) _ _ Y]
    rw[←e5];exact h3
   obtain⟨A0,c0,hv0⟩:∃A0 c0,((Ij l ((m:Int),(k:Int))).map FQ.v).getD (.slice none 0 0)= .slice A0 0 c0:=by
    rcases hok.got m k hm4 J6 with hg|⟨hg,_⟩
    ·rw[hg];exact⟨(F (k*5+1+m)).A,(F (k*5+1+m)).c,by show FQ.v _=_;unfold FQ.v;rw[h0]⟩
    ·rw[hg];exact⟨none,0,rfl⟩
   have hdl:((F (k*5)).xs.drop fr).length=(F (k*5)).n-fr:=by rw[CZ,atY]
   refine BM 96 func217 O (Aw (AQ O (jk ?_)))
   refine Az O (BI H O (hC _) (amG O) fun W1 H=>gK ?_)
   refine Aw (Az O (Az O (AL (FP (TN _ _) O) (Ea H O amZ fun p8 _ H=>Eh H 0 O O O O O O O OX ?_))))
   clear H;refine ayJ fun _ H=>?_
   refine Au (AP (rG ?_))
   refine aP ?_
   refine BK (fun _ H=>CB O OC) (BK (fun _ H=>Ef H 2 O O O OL) (BK (fun _ H=>Je H 0 O O O Ql OX) (BK (fun _ H=>aga H 3 O O O (gd) (hv0) underlying311 (JL UU)) (xG ?_))))
   refine BK (fun _ H=>Fv O O Y) (H8 ?_)
   clear H;intro _ H
   refine AO (EI O (jl ?_))
   refine wF ?_
   refine AL (aqR O O (awL _ _)) (rU ?_)
   refine wF ?_
   refine Az O (nK ?_)
   refine qw ?_
   refine Jj (fun f W=>∃A1 c1,f 0=abE p∧f 1= .int .i64 m∧f 2= .int .i64 k∧f 8=abE p8∧f 10= .int .i64 fr∧Heap w I [Dw 1 (.slice A1 ((F (k*5)).n-fr) c1) ((F (k*5)).n-fr) (((F (k*5)).xs.drop fr).map (Value.int .i64)) 3,blk p8 [.int .i64 m,.int .i64 k] 324,Dw 1 (.slice (F (k*5)).A (F (k*5)).n (F (k*5)).c) (F (k*5)).n ((F (k*5)).xs.map (Value.int .i64)) 3,blk p (frC F b) 314,mp kF FQ.v b (Lp l ((m:Int),(k:Int)) ⟨A1,(F (k*5)).n-fr,c1,(F (k*5)).xs.drop fr⟩),fam 3 160 (KR (KR F (k*5+1+m) FQ.nil) (k*5) FQ.nil)] W) ?_ ?_
   ·refine Gu mixed ?_;replace H:=H.drew
    refine bI ?_
    refine Dj 2 O O O (fun _ hS=>CB O OC) trivial (Dj 5 O O O (fun _ hS=>BP (v:= .pointer _) O) trivial (lT ?_))
    refine Dj 7 O O O (fun _ hS=>ES O) trivial (Dj 8 O O O (fun _ hS=>CB O OU) trivial (Dj 9 O O O (fun _ hS=>OY (i:=k) O O Y Y underlying312 Lh) trivial (Dj 11 O O O (fun _ hS=>BP (v:= .int _ _) O) trivial ?_)))
    refine TM 3 4 10 Ak ?_ ?_ ?_
    ·refine uh ?_
     refine D6 4 10 ?_ ?_
     ·refine BO O (Dn H 0 O O O Ql OX (qC ?_))
      refine iq ?_
      refine Bd 13 O (bV ?_)
      rintro e W1 ⟨A1,c1,rfl,H'⟩
      refine⟨_,rfl,?_⟩
      have H:=H.more H';clear H';simp only[Bv]at H
      refine qV ?_
      clear H;refine ayJ fun _ H=>?_
      refine kV ?_
      exact⟨A1,c1,rfl,rfl,rfl,rfl,by show Value.int _ _=_;rw[ZE],H⟩
     ·refine BO O (iq ?_)
      refine D6 4 13 ?_ ?_
      ·refine xJ ?_
       refine Bd 13 O (bV ?_)
       rintro e W1 ⟨A1,c1,rfl,H'⟩
       refine⟨_,rfl,?_⟩
       have H:=H.more H';clear H';simp only[Bv]at H
       refine qV ?_
       clear H;refine ayJ fun _ H=>?_
       refine kV ?_
       exact⟨A1,c1,rfl,rfl,rfl,rfl,by show Value.int _ _=_;rw[ZE],H⟩
      ·refine BO O (bV ?_)
       rintro e W1 ⟨A1,c1,rfl,H'⟩
       refine⟨_,rfl,?_⟩
       have H:=H.more H';clear H';simp only[Bv]at H
       refine kL ?_
       refine Dn H 1 O O O Ql OX (qV ?_)
       clear H;refine ayJ fun _ H=>?_
       refine kV ?_
       exact⟨A1,c1,rfl,rfl,rfl,rfl,by show Value.int _ _=_;rw[ZE],H⟩
    ·refine xJ ?_
     refine D6 3 10 ?_ ?_
     ·refine BO O (AL (Ef H 2 O O (Kr F b) OL) (qC ?_))
      refine iq ?_
      refine Bd 13 O (bV ?_)
      rintro e W1 ⟨A1,c1,rfl,H'⟩
      refine⟨_,rfl,?_⟩
      have H:=H.more H';clear H';simp only[Bv]at H
      refine qV ?_
      clear H;refine ayJ fun _ H=>?_
      refine kV ?_
      exact⟨A1,c1,rfl,rfl,rfl,rfl,by show Value.int _ _=_;rw[ZE],H⟩
     ·refine BO O (iq ?_)
      refine D6 3 13 ?_ ?_
      ·refine uh ?_
       refine Bd 13 O (bV ?_)
       rintro e W1 ⟨A1,c1,rfl,H'⟩
       refine⟨_,rfl,?_⟩
       have H:=H.more H';clear H';simp only[Bv]at H
       refine qV ?_
       clear H;refine ayJ fun _ H=>?_
       refine kV ?_
       exact⟨A1,c1,rfl,rfl,rfl,rfl,by show Value.int _ _=_;rw[ZE],H⟩
      ·refine BO O (bV ?_)
       rintro e W1 ⟨A1,c1,rfl,H'⟩
       refine⟨_,rfl,?_⟩
       have H:=H.more H';clear H';simp only[Bv]at H
       refine wK ?_
       clear H;refine ayJ fun _ H=>?_
       refine kV ?_
       exact⟨A1,c1,rfl,rfl,rfl,rfl,by show Value.int _ _=_;rw[ZE],H⟩
    ·refine BO O (iq ?_)
     refine TM 3 4 13 Ak ?_ ?_ ?_
     ·refine uh ?_
      refine D6 4 13 ?_ ?_
      ·refine xJ ?_
       refine Bd 13 O (bV ?_)
       rintro e W1 ⟨A1,c1,rfl,H'⟩
       refine⟨_,rfl,?_⟩
       have H:=H.more H';clear H';simp only[Bv]at H
       refine qV ?_
       clear H;refine ayJ fun _ H=>?_
       refine kV ?_
       exact⟨A1,c1,rfl,rfl,rfl,rfl,by show Value.int _ _=_;rw[ZE],H⟩
      ·refine BO O (bV ?_)
       rintro e W1 ⟨A1,c1,rfl,H'⟩
       refine⟨_,rfl,?_⟩
       have H:=H.more H';clear H';simp only[Bv]at H
       refine kL ?_
       refine Dn H 1 O O O Ql OX (qV ?_)
       clear H;refine ayJ fun _ H=>?_
       refine kV ?_
       exact⟨A1,c1,rfl,rfl,rfl,rfl,by show Value.int _ _=_;rw[ZE],H⟩
     ·refine xJ ?_
      refine D6 3 13 ?_ ?_
      ·refine uh ?_
       refine Bd 13 O (bV ?_)
       rintro e W1 ⟨A1,c1,rfl,H'⟩
       refine⟨_,rfl,?_⟩
       have H:=H.more H';clear H';simp only[Bv]at H
       refine qV ?_
       clear H;refine ayJ fun _ H=>?_
       refine kV ?_
       exact⟨A1,c1,rfl,rfl,rfl,rfl,by show Value.int _ _=_;rw[ZE],H⟩
      ·refine BO O (bV ?_)
       rintro e W1 ⟨A1,c1,rfl,H'⟩
       refine⟨_,rfl,?_⟩
       have H:=H.more H';clear H';simp only[Bv]at H
       refine wK ?_
       clear H;refine ayJ fun _ H=>?_
       refine kV ?_
       exact⟨A1,c1,rfl,rfl,rfl,rfl,by show Value.int _ _=_;rw[ZE],H⟩
     ·refine BO O (bV ?_)
      rintro e W1 ⟨A1,c1,rfl,H'⟩
      refine⟨_,rfl,?_⟩
      have H:=H.more H';clear H';simp only[Bv]at H
      refine aj ?_
      refine D6 3 4 ?_ ?_
      ·refine BO O (AL (Ef H 3 O O (Kr F b) OL) (kL ?_))
       refine Dn H 1 O O O Ql OX (qV ?_)
       clear H;refine ayJ fun _ H=>?_
       refine kV ?_
       exact⟨A1,c1,rfl,rfl,rfl,rfl,by show Value.int _ _=_;rw[ZE],H⟩
      ·refine BO O (Dn H 1 O O O Ql OX (wK ?_))
       clear H;refine ayJ fun _ H=>?_
       refine kV ?_
       exact⟨A1,c1,rfl,rfl,rfl,rfl,by show Value.int _ _=_;rw[ZE],H⟩
   ·clear H
    rintro f W ⟨A1,c1,f0,f1,f2,f8,f10,H⟩
    obtain⟨f,rfl⟩:=Lr f0 f1 f2 f8 f10
    clear f0 f1 f2 f8 f10
    have hg1:=Wp l ((m:Int),(k:Int)) (⟨A1,(F (k*5)).n-fr,c1,(F (k*5)).xs.drop fr⟩:FQ)
    have hok1:=((hok.mono (show N≤N+4 by omega)).avP (k:=k) (r:=⟨(F (k*5)).A,fr,(F (k*5)).c,(F (k*5)).xs.take fr⟩) (by show fr≤_;omega)).own hm4 J6 (r:=⟨A1,(F (k*5)).n-fr,c1,(F (k*5)).xs.drop fr⟩) (by show(F (k*5)).n-fr≤_;omega)
    by_cases hg0:(F (k*5)).n=0
    ·have hd0:(F (k*5)).xs.drop fr=[]:=BZ Y
     have hz:(F (k*5)).n-fr=0:=Y
     rw[if_pos hd0]
     refine fM ?_
     clear H;intro _ H
     refine ah1 H 3 O O O O (KO J6) (aao (r:=⟨(F (k*5)).A,fr,(F (k*5)).c,(F (k*5)).xs.take fr⟩) J6) O Lh ?_
     clear H;refine ayJ fun _ H=>?_
     refine Au (rG ?_)
     refine jV ?_
     refine adq O O (fun _ H=>aga H 4 O O O (gd) ((by rw[hg1];rfl:((Ij _ _).map FQ.v).getD (.slice none 0 0)= .slice A1 ((F (k*5)).n-fr) c1)) underlying311 (JL UU)) ?_
     refine BK (fun _ H=>DJ (v:= .slice _ _ _) O) (H8 ?_)
     clear H;intro _ H
     refine AO (kM ?_)
     refine AL (Fv O O Y) (ql ?_)
     refine uD ?_
     exact⟨rfl,hG hok1 (H.Ew [0,2,3,4,5] rfl rfl)⟩
    ·have hd0:(F (k*5)).xs.drop fr≠[]:=fun e=>by rw[e]at hdl;simp at hdl;omega
     rw[if_neg hd0]
     obtain⟨n1,hn1⟩:∃n1,(F (k*5)).n-fr=n1:=⟨_,rfl⟩
     rw[hn1]at H hg1 hok1 hdl
     have hc1:=Yw H 0 rfl
     obtain⟨q1,hq1⟩:=Heap.JC H 0 rfl Y
     subst hq1
     obtain⟨y,hy⟩:∃y,((F (k*5)).xs.drop fr)[n1-1]? =some y:=⟨_,Ar Y⟩
     have hyd:((F (k*5)).xs.drop fr).getD (((F (k*5)).xs.drop fr).length-1) 0=y:=by rw[hdl,Ba,hy];rfl
     rw[hyd,hdl]
     have hok2:=hok1.own hm4 J6 (r:=⟨some ⟨q1,0,none⟩,n1-1,c1,((F (k*5)).xs.drop fr).take (n1-1)⟩) (by show n1-1≤_;omega)
     rw[abB]at hok2
     refine fM ?_
     clear H;intro _ H
     refine ah1 H 3 O O O O (KO J6) (aao (r:=⟨(F (k*5)).A,fr,(F (k*5)).c,(F (k*5)).xs.take fr⟩) J6) O Lh ?_
     clear H;refine ayJ fun _ H=>?_
     refine Au (rG ?_)
     refine jV ?_
     refine adq O O (fun _ H=>aga H 4 O O O (gd) ((by rw[hg1];rfl:((Ij _ _).map FQ.v).getD (.slice none 0 0)= .slice (some ⟨q1,0,none⟩) n1 c1)) underlying311 (JL UU)) ?_
     refine BK (fun _ H=>DJ (v:= .slice _ _ _) O) (H8 ?_)
     clear H;intro _ H
     refine AO (kM ?_)
     refine mD ?_
     refine AP (abM 10 mixed Ak H O O (jV ?_))
     refine jc ?_
     refine jc ?_
     refine xG ?_
     refine BK (fun _ H=>FH O O (wI Y)) (BK (fun _ H=>Y1 (j:=n1-1) O O Y Y underlying22 Kz) (H8 ?_))
     clear H;intro _ H
     refine U6 (q:=⟨some ⟨q1,0,none⟩,n1-1,c1,((F (k*5)).xs.drop fr).take (n1-1)⟩) H 4 O O O O O (gd) underlying311 ?_
     clear H;refine ayJ fun _ H=>?_
     refine Au (Aw (CY O (CY O (eU ?_))))
     refine nK ?_
     refine AL (FC (i:=(n1-1)) O O Y Y underlying22 Kz) (AL (L9 H 0 O O hy GU) (pI ?_))
     have h1:=Xi (r:=⟨some ⟨q1,0,none⟩,n1,c1,(F (k*5)).xs.drop fr⟩) (m:=n1-1) H 0 rfl (by show n1-1≤n1;omega)
     simp only[Bv]at h1
     have h2:=hG hok2 (h1.Ew [0,2,3,4,5] rfl rfl)
     rw[amf]
     exact⟨rfl,h2⟩
  ·have hg:Ij l ((m:Int),(k:Int))=some (F (k*5+1+m)):=(hok.got m k hm4 J6).resolve_right (fun h=>h0 (by rw[h.2];rfl))
   have VO:MN (xsOf F) m k=xsOf F:=by
    unfold MN
    rw[if_neg (fun e=>h0 zC)]
   rw[VO]
   have hne:¬xsOf F (k*5+1+m)=[]:=fun e=>h0 zC
   rw[if_neg hne]
   have hxs:xsOf F (k*5+1+m)=(F (k*5+1+m)).xs:=rfl
   rw[hxs]
   obtain⟨r,hr⟩:∃r,F (k*5+1+m)=r:=⟨_,rfl⟩
   rw[hr]at H akd hg h0 aup⊢
   obtain⟨A,n,c,xs⟩:=r
   simp only at akd h0 aup⊢
   unfold QN at H
   simp only at H
   have hcap:=Yw H 0 rfl
   obtain⟨q1,rfl⟩:=Heap.JC H 0 rfl h0
   obtain⟨y,hy⟩:∃y,xs[n-1]? =some y:=⟨_,Ar Y⟩
   have hyd:xs.getD (xs.length-1) 0=y:=by rw[akd,Ba,hy];rfl
   rw[hyd,akd]
   have hok2:=(hok.mono (show N≤N+4 by omega)).own hm4 J6 (r:=⟨some ⟨q1,0,none⟩,n-1,c,xs.take (n-1)⟩) (by show n-1≤_;omega)
   refine BM 96 func217 O (Aw (AQ O (jk ?_)))
   refine Az O (BI H O (hC _) (amG O) fun W1 H=>gK ?_)
   refine Aw (Az O (Az O (AL (FP (TN _ _) O) (Ea H O amZ fun p8 _ H=>Eh H 0 O O O O O O O OX ?_))))
   clear H;refine ayJ fun _ H=>?_
   refine Au (AP (rG ?_))
   refine jP ?_
   refine adq O O (fun _ H=>aga H 3 O O O (gd) ((by rw[hg];rfl:((Ij _ _).map FQ.v).getD (.slice none 0 0)= .slice (some ⟨q1,0,none⟩) n c)) underlying311 (JL UU)) ?_
   refine xG ?_
   refine BK (fun _ H=>Fb O O Y) (H8 ?_)
   clear H;intro _ H
   refine AO (DX O (Bj (AO (rG ?_))))
   refine jP ?_
   refine adq O O (fun _ H=>aga H 3 O O O (gd) ((by rw[hg];rfl:((Ij _ _).map FQ.v).getD (.slice none 0 0)= .slice (some ⟨q1,0,none⟩) n c)) underlying311 (JL UU)) ?_
   refine BK (fun _ H=>DJ (v:= .slice _ _ _) O) (H8 ?_)
   clear H;intro _ H
   refine AO (kM ?_)
   refine mD ?_
   refine AP (abM 10 mixed Ak H O O (jP ?_))
   refine jc ?_
   refine jc ?_
   refine xG ?_
   refine BK (fun _ H=>FH O O (wI Y)) (BK (fun _ H=>Y1 (j:=n-1) O O Y Y underlying22 Kz) (H8 ?_))
   clear H;intro _ H
   refine U6 (q:=⟨some ⟨q1,0,none⟩,n-1,c,xs.take (n-1)⟩) H 3 O O O O O (gd) underlying311 ?_
   clear H;refine ayJ fun _ H=>?_
   refine Au (Aw (CY O (CY O (eU ?_))))
   refine nK ?_
   refine AL (FC (i:=(n-1)) O O Y Y underlying22 Kz) (AL (L9 H 1 O O hy GU) (pI ?_))
   replace H:=H.drop
   have h1:=Xi (r:=⟨some ⟨q1,0,none⟩,n,c,xs⟩) (m:=n-1) H 0 rfl (by show n-1≤n;omega)
   simp only[Bv]at h1
   have h2:=Heap.push h1 2 rfl (i:=k*5+1+m) Y (TY _ _ _)
   rw[abB]at h2
   refine⟨rfl,_,_,?_,hok2,by rw[Yi]⟩
   rw[hI]
   unfold frE
   have e5:frC F b=frC (KR F (k*5+1+m) ⟨some ⟨q1,0,none⟩,n-1,c,xs.take (n-1)⟩) b:=by
    unfold frC
    refine Y0 fun i hi=>?_
    split
    ·rfl
    ·rw[OG (i:=k*5+1+m) _ _ Y]
   rw[←e5];exact h2
end
end
end
section
section
structure Ru (S:XO):Prop where
 al:∀c,c<32→∀j,2≤j→j<5→S (c*5+j)=[]
 nd:∀c,c<32→(cls S c).Nodup
theorem aha{k:Nat}(h:k<32):isC (k:Int)=true:=decide_eq_true ⟨Y,Y⟩
theorem Ru.cls{S:XO}(h:Ru S){c:Nat}(hc:c<32):cls S c=S (c*5)++S (c*5+1):=by
 unfold Go.Proofs.YtppilhpcmkekbaaGreat.cls
 rw[h.al c hc 2 Y Y,h.al c hc 3 Y Y,h.al c hc 4 Y Y]
 simp
theorem Ru.nil:Ru (xsOf PL):=⟨fun _ _ _ _ _=>rfl,fun _ _=>by simp[Go.Proofs.YtppilhpcmkekbaaGreat.cls,xsOf,PL,FQ.nil]⟩
theorem ao4{S:XO}(h:Ru S){c:Nat}(hc:c<32){a:Int}(ha:a∉cls S c):∃S',afS S c a=(S',0)∧Ru S'∧(cls S' c).Perm (cls S c++ [a])∧∀j,j≠c→cls S' j=cls S j:=by
 have hp:=agD S c a
 refine⟨Oq S (c*5) (S (c*5)++ [a]),?_,⟨fun c2 hc2 j h2 h5=>?_,fun c2 hc2=>?_⟩,hp,fun j hj=>WA Y⟩
 ·unfold afS ajR
  rw[aha hc,Bz,decide_eq_false ha]
  simp
 ·rw[NR _ _ Y];exact h.al c2 hc2 j h2 h5
 ·by_cases e:c2=c
  ·subst e
   rw[hp.nodup_iff,CS]
   exact⟨h.nd c2 hc2,J,fun x hx y hy e=>ha (by rw[Bf.1 hy]at e;rw[←e];exact hx)⟩
  ·rw[WA Y];exact h.nd c2 hc2
theorem aik{S:XO}(h:Ru S){c:Nat}(hc:c<32):Ru (MN S 0 c)∧(∀j,(cls (MN S 0 c) j).Perm (cls S j)):=by
 have hp:∀j,(cls (MN S 0 c) j).Perm (cls S j):=fun j=>by
  by_cases e:j=c
  ·subst e;exact agB S 0 j Y
  ·unfold MN
   split
   ·rw[WA Y,WA Y]
   ·exact QT _
 refine⟨⟨fun c2 hc2 j h2 h5=>?_,fun c2 hc2=>(hp c2).nodup_iff.2 (h.nd c2 hc2)⟩,hp⟩
 unfold MN
 split
 ·rw[NR _ _ Y,NR _ _ Y];exact h.al c2 hc2 j h2 h5
 ·exact h.al c2 hc2 j h2 h5
theorem aom{S:XO}(h:Ru S){c:Nat}(hc:c<32)(h0:cls S c=[]):∃S',Zk S 0 c=(S',0,4)∧Ru S'∧∀j,(cls S' j).Perm (cls S j):=by
 obtain⟨h1,h2⟩:=aik h hc
 refine⟨MN S 0 c,?_,h1,h2⟩
 rw[h.cls hc]at h0
 obtain⟨e1,e2⟩:=List.append_eq_nil_iff.1 h0
 have e3:MN S 0 c (c*5+1+0)=[]:=by
  unfold MN
  rw[if_pos e2,aeH,e1];rfl
 unfold Zk
 rw[if_neg (by rw[aha hc];simp[isM])]
 rw[Bz,show(0:Int).toNat=0 from rfl,if_pos e3]
theorem ah6{S:XO}(h:Ru S){c:Nat}(hc:c<32)(h0:cls S c≠[]):∃S' a,Zk S 0 c=(S',a,0)∧Ru S'∧(cls S' c++ [a]).Perm (cls S c)∧∀j,j≠c→(cls S' j).Perm (cls S j):=by
 obtain⟨h1,h2⟩:=aik h hc
 have hne:MN S 0 c (c*5+1+0)≠[]:=by
  rw[h.cls hc]at h0
  unfold MN
  split
  ·rename_i e
   rw[show c*5+1+0=c*5+1 by omega]at e
   rw[e,Du]at h0
   rw[aeH]
   intro h3
   have:=congrArg List.length h3
   rw[CZ,Jy]at this
   have:=Gn.2 h0
   omega
  ·assumption
 generalize hX:MN S 0 c=X at*
 have hl:=ajH _ hne
 have hp:(cls (Oq X (c*5+1+0) ((X (c*5+1+0)).take ((X (c*5+1+0)).length-1))) c++ [(X (c*5+1+0)).getD ((X (c*5+1+0)).length-1) 0]).Perm (cls S c):=by
  refine .trans (aaM fun z=>?_) (h2 c)
  have h3:=Zm X 0 c Y ((X (c*5+1+0)).take ((X (c*5+1+0)).length-1)) z
  have h4:=congrArg (List.count z) hl
  rw[Gq]at h4⊢
  omega
 refine⟨_,_,?_,⟨fun c2 hc2 j hj2 hj5=>?_,fun c2 hc2=>?_⟩,hp,fun j hj=>?_⟩
 ·unfold Zk
  rw[if_neg (by rw[aha hc];simp[isM])]
  rw[Bz,show(0:Int).toNat=0 from rfl,hX,if_neg hne]
 ·rw[NR _ _ Y];exact h1.al c2 hc2 j hj2 hj5
 ·by_cases e:c2=c
  ·subst e
   have:=hp.nodup_iff.2 (h.nd c2 hc2)
   exact(CS.1 this).1
  ·rw[WA Y];exact h1.nd c2 hc2
 ·rw[WA Y];exact h2 j
end
end
section
section
open Go.RowKit
section
variable{P:Program}{n:Sz}{f:Nat→Value}{W:World}{dst:Option Tmp}{ty:TypeId}{pos:String}{af:Array Edge}{g:Option (Nat×Bool)}{x y:Operand}{k k2:IntKind}{a b c:Int}{t t2:TypeId}
theorem alU{s:Nat}(hx:ev n f x= .int k a)(hy:ev n f y= .int k2 b)(hb:b=(s:Int))(hs:s≤k.bits)(hr:a.fdiv (2^s)=c):(execOp (ev n f) ⟨dst,.binOp .shr t x y t2,ty,pos,af,g⟩).run P W= .ok (.value (.int k c)) W:=by
 subst hb
 have h1:min s k.bits=s:=KA hs
 have h2:¬(s:Int)<0:=Y
 simp[execOp,hx,hy,eqGuard,binOp,Op.shift,h1,h2,hr]
theorem am6{s:Nat}(hx:ev n f x= .int k a)(hy:ev n f y= .int k2 b)(hb:b=(s:Int))(hs:s≤k.bits)(hr:k.wrap (a*2^s)=c):(execOp (ev n f) ⟨dst,.binOp .shl t x y t2,ty,pos,af,g⟩).run P W= .ok (.value (.int k c)) W:=by
 subst hb
 have h1:min s k.bits=s:=KA hs
 have h2:¬(s:Int)<0:=Y
 simp[execOp,hx,hy,eqGuard,binOp,Op.shift,h1,h2,hr]
theorem fdiv_pow(X s:Nat):((X:Int)).fdiv (2^s)=((X/2^s:Nat):Int):=by
 rw[←Bt.OM,Int.fdiv_eq_ediv_of_nonneg _ (Int.natCast_nonneg _)];exact(Lj ..).symm
theorem aqu(hx:ev n f x= .int k a)(hy:ev n f y= .int k b)(hr:bits .and k a b=c):(execOp (ev n f) ⟨dst,.binOp .and t x y t2,ty,pos,af,g⟩).run P W= .ok (.value (.int k c)) W:=by
 simp[execOp,hx,hy,eqGuard,binOp,intBits_and,hr]
theorem ax'(hx:ev n f x= .int k a)(hy:ev n f y= .int k b)(hr:bits .or k a b=c):(execOp (ev n f) ⟨dst,.binOp .or t x y t2,ty,pos,af,g⟩).run P W= .ok (.value (.int k c)) W:=by
 simp[execOp,hx,hy,eqGuard,binOp,intBits_or,hr]
theorem akS(hx:ev n f x= .int k a)(hy:ev n f y= .int k b)(hr:bits .andNot k a b=c):(execOp (ev n f) ⟨dst,.binOp .andNot t x y t2,ty,pos,af,g⟩).run P W= .ok (.value (.int k c)) W:=by
 simp[execOp,hx,hy,eqGuard,binOp,intBits_andNot,hr]
end
def JJ(p b:Nat)(A:Option Addr)(c:Nat)(l:List Bool):List Fp:=[blk p [.slice A (Bm.nw l) c,.int .i64 l.length,.int .i64 (Bm.cnt l)] 193,vec (Value.int .u64) b (Bm.ws l) 26]
structure Ib (b:Nat) (A:Option Addr) (c:Nat) (l:List Bool):Prop where
 row:Bm.nw l≠0→A=some ⟨b,0,none⟩
 len:l.length≤131072
theorem ak3(p b:Nat)(A:Option Addr)(c:Nat)(l:List Bool):∀E∈JJ p b A c l,Cel E:=WG (ag1 _ _ _) (WG (ate _ _ _ _) agv)
abbrev pt(b:Nat):Value:= .pointer (some ⟨b,0,none⟩)
section
variable{p b:Nat}{A:Option Addr}{c:Nat}{l:List Bool}(hk:Ib b A c l)(w:World)(hE:DW (JJ p b A c l) w)
include hE
theorem bIn(x:Int):Calls prog 123 [pt p,.int .i64 x].toArray w fun e w'=>e= .returned (.bool (decide (0≤x∧x<l.length)))∧Only [] w w':=by
 have HR:=Heap.start hE
 have H:=Heap.nil w
 unfold JJ at HR
 by_cases h1:0≤x
 ·by_cases h2:x<l.length
  ·rw[decide_eq_true ⟨h1,h2⟩]
   refine ru ?_
   refine AX 7 O (Df O O Y) (oJ ?_)
   exact⟨rfl,H.only⟩
  ·rw[decide_eq_false (fun h=>h2 h.2)]
   refine ru ?_
   refine AX 7 O (CO O O Y) (oJ ?_)
   exact⟨rfl,H.only⟩
 ·rw[decide_eq_false (fun h=>h1 h.1)]
  refine BM 15 func123 O (qU ?_)
  refine Aw (uI ?_)
  refine xH ?_
  refine Cc 7 O O (Dp O O (gZ ?_))
  exact⟨rfl,H.only⟩
theorem auF:Calls prog 189 [pt p].toArray w fun e w'=>e= .returned (.int .i64 (Bm.cnt l))∧Only [] w w':=by
 have HR:=Heap.start hE
 have H:=Heap.nil w
 unfold JJ at HR
 refine BM 7 func189 O (Aw (AQ O (uX ?_)))
 refine BR O TT (BD (HR.same H.only) 0 O O O GU (fH ?_))
 exact⟨rfl,H.only⟩
include hk
theorem amJ(x:Int):Calls prog 124 [pt p,.int .i64 x].toArray w fun e w'=>e= .returned (.bool (decide (0≤x)&&Bm.at_ l x.toNat))∧Only [] w w':=by
 have HR:=Heap.start hE
 have H:=Heap.nil w
 have hI:=fun w' (H:Heap w [] [] w')=>bIn w' (HR.same H.only).ents x
 have hlen:=hk.len
 by_cases hin:0≤x∧x<l.length
 ·rw[decide_eq_true hin]at hI
  obtain⟨i,rfl⟩:=Bo hin.1
  have hi:i<l.length:=Y
  obtain rfl:=hk.row zI
  have hnw:i/64<Bm.nw l:=by unfold Bm.nw;omega
  rw[decide_eq_true hin.1,GL,Bz]
  have hb:=Bm.aw6 (Bm.wd l (i/64)) (i%64) (Bm.afI _ _)
  have hbit:=Bm.Sj l (i/64) (i%64)
  rw[show 64*(i/64)+i%64=i by omega,decide_eq_true (show i%64<64 by omega),GL]at hbit
  rw[hbit]at hb
  unfold JJ at HR
  cases hat:Bm.at_ l i with
  |true=>
   rw[hat,if_pos rfl]at hb
   refine BM 24 func124 O (qU ?_)
   refine jl ?_
   refine BI H O (hI _ H) (adz O) fun W1 H=>BL O (eP ?_)
   refine AX 8 O (Fv O O Y) (oJ ?_)
   exact⟨rfl,H.only⟩
  |false=>
   rw[hat,if_neg J]at hb
   refine BM 24 func124 O (qU ?_)
   refine jl ?_
   refine BI H O (hI _ H) (adz O) fun W1 H=>BL O (eP ?_)
   refine AX 8 O (Fb O O Y) (oJ ?_)
   exact⟨rfl,H.only⟩
 ·have hz:(decide (0≤x)&&Bm.at_ l x.toNat)=false:=by
   by_cases h0:0≤x
   ·rw[Bm.at_out Y];simp
   ·simp[h0]
  rw[hz]
  rw[decide_eq_false hin]at hI
  unfold JJ at HR
  refine BM 24 func124 O (qU ?_)
  refine jl ?_
  refine BI H O (hI _ H) (adz O) fun W1 H=>BL O (pY ?_)
  refine pY ?_
  refine Dp O O (gZ ?_)
  exact⟨rfl,H.only⟩
end
end
end
section
section
open Go.RowKit
section
variable{P:Program}{ops:Array Oper}{rest:List Oper}{n:Sz}{k:Nat}{f:Nat→Value}{W W' w0:World}{F:List Nat}{L:List Fp}{Q:Exit→Act→World→Prop}{ty:TypeId}{pos:String}{af:Array Edge}{g:Option (Nat×Bool)}{x:Operand}{v:Value}{t e:TypeId}{o:Oper}
theorem apW(hd:o.dst=none)(hw:Region.wanted o (yl n f ops)=true)(hr:(execOp (ev n f) o).run P W= .ok (.value v) W')(h:SL P ops Q rest n f W'):SL P ops Q (o::rest) n f W:=by
 have hy:yielded ops (Fn n f).tmps=yl n f ops:=funext (TG n f ops)
 have hr':(execOp (Fn n f).eval o).run P W= .ok (.value v) W':=by rw[KY];exact hr
 refine⟨?_,fun l0 m=>?_⟩
 ·refine kD ?_
  rw[hr',Oper.upon_value,hd]
  exact h.out
 ·refine nN ?_
  refine Vq hr' (fun d=>by intro e;cases e) ?_
  rw[Oper.uponIn_value,hd]
  exact h.inr l0 m
theorem aoe{α:Type}{enc:α→Value}{z:α}{p l c bytes:Nat}{xs:List α}{T:TypeId}(H:Heap w0 F L W)(j:Nat)(hw:Region.wanted ⟨none,.call ⟨.builtin .clear,#[x],#[t]⟩,ty,pos,af,g⟩ (yl n f ops)=true)
 (hx:ev n f x= .slice (some ⟨p,0,none⟩) l c) (hj:L[j]? =some (vec enc p xs T)) (hl:xs.length=l) (h0:l≠0) (ht:P.underlying t=some (.slice e)) (hi:Inf P e (enc z) 1 bytes) (h1:(enc z).oneCell'=true)
 (h:∀W',Heap w0 F (L.set j (vec enc p (List.replicate l z) T)) W'→SL P ops Q rest n f W'):SL P ops Q (⟨none,.call ⟨.builtin .clear,#[x],#[t]⟩,ty,pos,af,g⟩::rest) n f W:=by
 subst hl
 obtain⟨rs,hr⟩:=H.RS j hj h0
 obtain⟨i,hi0,hz0,hsz,_⟩:=hi.ex
 have hrep:List.replicate xs.length (enc z)=(List.replicate xs.length z).map enc:=by simp
 have hst:=run_storeCells_at P p 0 T (List.replicate xs.length (enc z)) 0 _ W hr J (fun v hv=>by rw[(Og.1 hv).2];exact h1)
 have H2:=H.ag9 j hj (o:=0) (ys:=List.replicate xs.length z) h0 J hr
 rw[←hrep]at H2
 simp only[Ld,EH,DT,CV,Ph,Du,KF]at hst H2
 have hrun:(Builtin.clear_ #[t] ty #[.slice (some ⟨p,0,none⟩) xs.length c]).run P W= .ok (.tuple #[]) (W.setRow p (List.replicate xs.length (enc z)++(xs.map enc++rs).drop xs.length).toArray):=by
  have hz1:(zeroValue e).run P W= .ok (enc z) W:=by simp[zeroValue,typeInfo,hi0,hz0]
  obtain⟨m,hm⟩:=Lu h0
  rw[hm]at hst⊢
  simp[Builtin.clear_,run_underlying ht,hz1,W9 _ _ (Jr h1),hst]
 exact apW (v:= .tuple #[]) rfl hw zM (h _ H2)
theorem alQ{A:Option Addr}{c:Nat}(H:Heap w0 F L W)(hw:Region.wanted ⟨none,.call ⟨.builtin .clear,#[x],#[t]⟩,ty,pos,af,g⟩ (yl n f ops)=true)
 (hx:ev n f x= .slice A 0 c) (ht:P.underlying t=some (.slice e))
 (h:∀W',Heap w0 F L W'→SL P ops Q rest n f W'):SL P ops Q (⟨none,.call ⟨.builtin .clear,#[x],#[t]⟩,ty,pos,af,g⟩::rest) n f W:=by
 have hrun:(Builtin.clear_ #[t] ty #[.slice A 0 c]).run P W= .ok (.tuple #[]) W:=by
  cases A<;>simp[Builtin.clear_,run_underlying ht]
 exact apW (v:= .tuple #[]) rfl hw zM (h _ H)
end
theorem wrapN(Ap:Nat)(h:Ap<18446744073709551616):IntKind.u64.wrap (Ap:Int)=Ap:=wU Y
theorem afi{p b:Nat}{A:Option Addr}{c:Nat}{l:List Bool}{i:Nat}{v:Bool}{w W:World}{F:List Nat}{L:List Fp}(h:i<l.length)(n:Int)(hn:n=Bm.cnt (l.set i v))(X:Int)(hX:X=((Bm.wd (l.set i v) (i/64):Nat):Int))
 (H:Heap w F (blk p [.slice A (Bm.nw l) c,.int .i64 l.length,.int .i64 n] 193::vec (Value.int .u64) b ((Bm.ws l).set (i/64) X) 26::L) W):Heap w F (JJ p b A c (Bm.put l i v)++L) W:=by
 subst hn;subst hX
 rw[Bm.VB v h]
 rw[Bm.atf l i v h]at H
 unfold JJ
 have e1:Bm.nw (l.set i v)=Bm.nw l:=by simp[Bm.nw]
 have e2:(l.set i v).length=l.length:=by simp
 rw[e1,e2];exact H
section
variable{p b:Nat}{A:Option Addr}{c:Nat}{l:List Bool}(hk:Ib b A c l)(w:World)(hE:DW (JJ p b A c l) w)
include hE hk
theorem anR(x:Int):Calls prog 57 [pt p,.int .i64 x].toArray w fun e w'=>e= .returned (.bool (decide (0≤x∧x<l.length)&& !Bm.has l x))∧Heap w (ids (JJ p b A c l)) (JJ p b A c (Bm.put l x true)) w':=by
 have H:=Heap.start hE
 generalize ids (JJ p b A c l)=F at*
 have hI:=fun w' (H:Heap w F (JJ p b A c l) w')=>bIn w' H.ents x
 have hH:=fun w' (H:Heap w F (JJ p b A c l) w')=>amJ hk w' H.ents x
 have hlen:=hk.len
 have hcn:=Bm.cnt_le l
 by_cases hin:0≤x∧x<l.length
 ·rw[decide_eq_true hin]at hI
  obtain⟨i,rfl⟩:=Bo hin.1
  have hi:i<l.length:=Y
  have hA:=hk.row zI
  have hnw:i/64<Bm.nw l:=by unfold Bm.nw;omega
  rw[decide_eq_true hin,GL,Bm.aa6]
  rw[decide_eq_true hin.1,GL,Bz]at hH
  cases hat:Bm.at_ l i with
  |true=>
   rw[hat]at hH
   rw[Bm.VB true hi,Bm.set_self hi hat]
   refine BM 35 func57 O (qU ?_)
   refine AP (jl ?_)
   refine BI H O (hI _ H) (adz O) fun W1 H=>AL (EM O) (BL O (AX 9 O (MQ O) (AX 9 O (Fz O) (s_call (EP 9 Ak O) (hH _ H) (Zg O) ?_))))
   rintro e W1 ⟨rfl,H'⟩
   refine⟨_,rfl,?_⟩
   have H:=H.same H';clear H'
   refine Dp O O (iD ?_)
   exact⟨rfl,H⟩
  |false=>
   rw[hat]at hH
   have hon:=Bm.av4 l i hi
   have hp2:(2:Nat)^(i%64)<18446744073709551616:=by have:=(Bt.Z8 (i%64) Y).2;omega
   have hor:=u64_or_nat (Bm.wd l (i/64)) (2^(i%64)) (Bm.afI _ _) hp2
   rw[hon]at hor
   have hcnt:=Bm.amr l i hi hat
   have hpw:IntKind.u64.wrap (1*2^(i%64))=((2^(i%64):Nat):Int):=by
    rw[RD,←Bt.OM];exact wrapN _ hp2
   have hgz:=Bm.Vp l _ hnw
   have hwl:(Bm.ws l).length=Bm.nw l:=Bm.XD l
   rw[hA]at H hI hH⊢
   refine BM 35 func57 O (qU ?_)
   refine AP (jl ?_)
   refine BI H O (hI _ H) (adz O) fun W1 H=>AL (EM O) (BL O (AX 9 O (MQ O) (AX 9 O (Fz O) (s_call (EP 9 Ak O) (hH _ H) (Zg O) ?_))))
   rintro e W1 ⟨rfl,H'⟩
   refine⟨_,rfl,?_⟩
   have H:=H.same H';clear H';unfold JJ at H
   refine fE ?_
   refine mY ?_
   refine AL (ax' O O hor) (xE ?_)
   clear H;refine ayJ fun _ H=>?_
   refine uX ?_
   refine BR O TT (mQ ?_)
   refine dI ?_
   refine Dl O (BR O TT (jh ?_))
   clear H;refine ayJ fun _ H=>?_
   refine Au (Aw (gZ ?_))
   refine⟨rfl,?_⟩
   have:=afi (v:=true) (L:=[]) hi _ (by rw[hcnt];rfl) _ rfl H
   simpa using this
 ·rw[decide_eq_false hin]at hI
  rw[Bm.V9 true hin,decide_eq_false hin,Jf]
  refine BM 35 func57 O (qU ?_)
  refine AP (jl ?_)
  refine BI H O (hI _ H) (adz O) fun W1 H=>AL (Jm O) (BL O (Cc 9 O O (Cc 9 O O (Cc 9 O O (ED O O (iD ?_))))))
  exact⟨rfl,H⟩
theorem au'(x:Int):Calls prog 94 [pt p,.int .i64 x].toArray w fun e w'=>e= .returned (.bool (Bm.has l x))∧Heap w (ids (JJ p b A c l)) (JJ p b A c (Bm.put l x false)) w':=by
 have H:=Heap.start hE
 generalize ids (JJ p b A c l)=F at*
 have hH:=fun w' (H:Heap w F (JJ p b A c l) w')=>amJ hk w' H.ents x
 have hlen:=hk.len
 have hcn:=Bm.cnt_le l
 have hhas:(decide (0≤x)&&Bm.at_ l x.toNat)=Bm.has l x:=rfl
 rw[hhas]at hH
 cases hat:Bm.has l x with
 |true=>
  rw[hat]at hH
  have hin:0≤x∧x<l.length:=by
   refine II fun hn=>?_
   rw[Bm.aor hn]at hat;cases hat
  obtain⟨i,rfl⟩:=Bo hin.1
  rw[Bm.aa6]at hat
  have hi:i<l.length:=Y
  have hA:=hk.row zI
  have hnw:i/64<Bm.nw l:=by unfold Bm.nw;omega
  have hon:=Bm.asP l i hi
  have hp2:(2:Nat)^(i%64)<18446744073709551616:=by have:=(Bt.Z8 (i%64) Y).2;omega
  have hor:=u64_andNot_nat (Bm.wd l (i/64)) (2^(i%64)) (Bm.afI _ _) hp2
  rw[hon]at hor
  have hcnt:=Bm.apH l i hat
  have hpw:IntKind.u64.wrap (1*2^(i%64))=((2^(i%64):Nat):Int):=by
   rw[RD,←Bt.OM];exact wrapN _ hp2
  have hgz:=Bm.Vp l _ hnw
  have hwl:(Bm.ws l).length=Bm.nw l:=Bm.XD l
  rw[hA]at H hH⊢
  refine BM 30 func94 O (qU ?_)
  refine AP (jl ?_)
  refine s_call O (hH _ H) (Zg O) ?_
  rintro e W1 ⟨rfl,H'⟩
  refine⟨_,rfl,?_⟩
  have H:=H.same H';clear H';unfold JJ at H
  refine gK ?_
  refine mY ?_
  refine AL (akS O O hor) (xE ?_)
  clear H;refine ayJ fun _ H=>?_
  refine uX ?_
  refine BR O TT (mQ ?_)
  refine nK ?_
  refine Dl O (BR O TT (jh ?_))
  clear H;refine ayJ fun _ H=>?_
  refine Au (Aw (gZ ?_))
  refine⟨rfl,?_⟩
  have:=afi (v:=false) (L:=[]) hi _ Y _ rfl H
  simpa using this
 |false=>
  rw[hat]at hH
  have hput:Bm.put l x false=l:=by
   by_cases hin:0≤x∧x<l.length
   ·obtain⟨i,rfl⟩:=Bo hin.1
    rw[Bm.aa6]at hat
    rw[Bm.VB false Y,Bm.set_self Y hat]
   ·exact Bm.V9 false hin
  rw[hput]
  refine BM 30 func94 O (qU ?_)
  refine AP (jl ?_)
  refine BI H O (hH _ H) (Zg O) fun W1 H=>AL (Jm O) (iD ?_)
  exact⟨rfl,H⟩
theorem as5:Calls prog 121 [pt p].toArray w fun e w'=>e= .returned (.tuple #[])∧Heap w (ids (JJ p b A c l)) (JJ p b A c (List.replicate l.length false)) w':=by
 have H:=Heap.start hE
 generalize ids (JJ p b A c l)=F at*
 have e1:Bm.nw (List.replicate l.length false)=Bm.nw l:=by simp[Bm.nw]
 have e2:=Bm.akT l.length
 have e3:(l.length+63)/64=Bm.nw l:=rfl
 rw[e3]at e2
 unfold JJ at*
 rw[e1,e2,Bm.aib,CV]
 by_cases h0:Bm.nw l=0
 ·rw[h0]at H⊢
  have e4:Bm.ws l=[]:=by apply BZ;rw[Bm.XD,h0]
  rw[e4]at H
  refine BM 9 func121 O (eY ?_)
  refine BR O PD (BD H 0 O O O JE (alQ H O O underlying55 ?_))
  intro _ H';try (simp only[Bv,Nat.reduceAdd]at H')
  clear H;have H:=H';clear H'
  refine Au (sN ?_)
  refine BR O TT (jh ?_)
  clear H;refine ayJ fun _ H=>?_
  refine AA (fin0 O ?_)
  exact⟨rfl,H⟩
 ·obtain rfl:=hk.row h0
  refine BM 9 func121 O (eY ?_)
  refine BR O PD (BD H 0 O O O JE (aoe H 1 O O O (Bm.XD l) h0 underlying55 Ig O ?_))
  intro _ H';try (simp only[Bv,Nat.reduceAdd]at H')
  clear H;have H:=H';clear H'
  refine Au (sN ?_)
  refine BR O TT (jh ?_)
  clear H;refine ayJ fun _ H=>?_
  refine AA (fin0 O ?_)
  exact⟨rfl,H⟩
end
theorem bNew(n:Nat)(w:World)(hn:n≤131072):Calls prog 52 [.int .i64 n].toArray w fun e w'=>∃q b' A' c',e= .returned (pt q)∧Ib b' A' c' (List.replicate n false)∧Heap w [] (JJ q b' A' c' (List.replicate n false)) w':=by
 have H:=Heap.nil w
 have hU:=fun w=>adU n 64 w Y Y Y Y
 rw[Bm.auv]at hU
 have e1:Bm.nw (List.replicate n false)=(n+63)/64:=by simp[Bm.nw]
 have e2:=Bm.akT n
 generalize hm:(n+63)/64=m at*
 refine BM 11 func52 O (Aw (EX O (Au (Aw (Az O (Hf O O (ZB (c:=(n:Int)) O O zJ) (oG ?_)))))))
 refine s_call O (hU _) (amm O) ?_
 rintro e W1 ⟨rfl,rfl⟩
 refine⟨_,rfl,?_⟩
 skip
 refine Jk (Value.int .u64) 0 (m:=m) H O O O Y Y Y underlying55 Ig O ?_
 intro b _ H';clear H;have H:=H';clear H'
 refine Az O (AL (FP (akM _ _ _ _) O) (DU H O O fun p10 _ H=>uq ?_))
 refine⟨_,b,_,m,rfl,⟨fun _=>rfl,by simpa using hn⟩,?_⟩
 unfold JJ
 rw[e1,e2,Bm.aib,CV]
 exact H
end
end
end Go.Proofs.YtppilhpcmkekbaaGreat
