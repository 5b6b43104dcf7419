/- Parts of the proof. -/
import Derived.Defers
import Derived.Deep.Slices
import Derived.Deep.Fields
import Derived.ChangeSame
import Derived.Test.YtppilhpcmkekbaaGreatKTopBothg
set_option linter.unusedSimpArgs false
set_option linter.unusedVariables false
set_option linter.unusedSectionVars false
set_option maxRecDepth 100000
set_option maxHeartbeats 16000000
namespace Go.Proofs.YtppilhpcmkekbaaGreat
open Go.Proofs.Tryz
section
section
open Go.RowKit
theorem ML.mono{F:Nat→EP}{l:Vf}{N M:Nat}(h:ML F l N)(hM:N≤M):ML F l M:=⟨h.keys,h.got,fun i hi=>FC (h.len i hi) hM⟩
theorem ML.aq5{F:Nat→EP}{l:Vf}{N k:Nat}(h:ML F l N){r:EP}(hr:r.n≤N):ML (JJ F (k*5) r) l N:=
 ⟨h.keys,fun m j hm hj=>by rw[Lp _ _ Y];exact h.got m j hm hj,fun i hi=>by
  by_cases e:i=k*5
  ·rw[e,Oy];exact hr
  ·rw[Lp _ _ e];exact h.len i hi⟩
theorem Y3{α β:Type}[DecidableEq α]:∀(l:List (α×β)) (a:α) (v:β),FZ (JX l a v) a=some v
 | [],a,v=>by simp[JX,FZ]
 |p::l,a,v=>by
  unfold JX
  split
  ·simp[FZ]
  ·rename_i h
   rw[FZ,if_neg h];exact Y3 l a v
theorem acr{α β:Type}[DecidableEq α]:∀(l:List (α×β)) (a b:α) (v:β),b≠a→FZ (JX l a v) b=FZ l b
 | [],a,b,v,h=>by simp[JX,FZ,Ne.symm h]
 |p::l,a,b,v,h=>by
  unfold JX
  split
  ·rename_i e
   subst e
   simp[FZ,Ne.symm h]
  ·rw[FZ,FZ,acr l a b v h]
theorem afw{α β:Type}[DecidableEq α]:∀(l:List (α×β)) (a:α) (v:β) (x:α×β),x∈JX l a v→x=(a,v)∨x∈l
 | [],a,v,x,h=>by simp[JX]at h;exact .inl h
 |p::l,a,v,x,h=>by
  unfold JX at h
  split at h
  ·rcases Dh.1 h with h|h
   ·exact .inl h
   ·exact .inr (DZ _ h)
  ·rcases Dh.1 h with h|h
   ·exact .inr (by rw[h];simp)
   ·exact(afw l a v x h).imp id (DZ _)
theorem ML.own{F:Nat→EP}{l:Vf}{N m k:Nat}(h:ML F l N)(hm:m<4)(hk:k<32){r:EP}(hr:r.n≤N):ML (JJ F (k*5+1+m) r) (JX l ((m:Int),(k:Int)) r) N:=by
 refine⟨fun x hx=>?_,fun m' k' hm' hk'=>?_,fun i hi=>?_⟩
 ·rcases afw _ _ _ x hx with rfl|hx
  ·exact⟨by show(0:Int)≤(m:Int);omega,by show(m:Int)<4;omega,by show(0:Int)≤(k:Int);omega,by show(k:Int)<32;omega⟩
  ·exact h.keys x hx
 ·by_cases e:m'=m∧k'=k
  ·obtain⟨rfl,rfl⟩:=e
   rw[Y3,Oy];exact .inl rfl
  ·have hne:((m':Int),(k':Int))≠((m:Int),(k:Int)):=fun e2=>e (by injection e2 with a b;exact⟨Y,Y⟩)
   rw[acr _ _ _ _ hne,Lp _ _ Y]
   exact h.got m' k' hm' hk'
 ·by_cases e:i=k*5+1+m
  ·rw[e,Oy];exact hr
  ·rw[Lp _ _ e];exact h.len i hi
def amY(p b:Nat)(F:Nat→EP)(l:Vf)(N:Nat)(S':TG)(w w':World):Prop:=∃F' l',Heap w (ids (ZK p b F F l)) (ZK p b F' F' l') w'∧ML F' l' N∧xsOf F'=S'
section
variable{p b N:Nat}{F:Nat→EP}{l:Vf}{w:World}
theorem apz(hE:Dj (ZK p b F F l) w)(hok:ML F l N)(hN:N≤100000)(k a:Int):
 Calls prog 231 [Q7 p,.int .i64 k,.int .i64 a].toArray w fun e w'=>e= .returned (.int .i64 (afr (xsOf F) k a).2)∧amY p b F l (N+1) (afr (xsOf F) k a).1 w w':=by
 have H:=Heap.start hE
 have hC:=fun W=>abK k W
 have hHa:=fun{W:World} hE=>awW (p:=p) (b:=b) (F:=F) (l:=l) (w:=W) hE hok Y k a
 unfold afr
 cases hk:isC k with
 |false=>
  simp only[hk]at hC
  rw[if_pos rfl]
  refine BO 30 func231 O (AP (iZ ?_))
  refine BL H O (hC _) (Uy O) fun W1 H=>AV (Ib O) (jT ?_)
  exact⟨rfl,F,l,H,hok.mono Y,rfl⟩
 |true=>
  simp only[hk]at hC
  rw[if_neg J]
  by_cases hh:akc (xsOf F) k a=true
  ·rw[if_pos hh]
   rw[hh]at hHa
   refine BO 30 func231 O (AP (iZ ?_))
   refine BL H O (hC _) (Uy O) fun W1 H=>AV (Ea O) (BH O (AO (DC O (eH ?_))))
   refine AQ O (BL H O (hHa H.ents) (aqv O) fun W1 H=>jT ?_)
   exact⟨rfl,F,l,H,hok.mono Y,rfl⟩
  ·have hh:akc (xsOf F) k a=false:=by simpa using hh
   rw[if_neg (by rw[hh];simp)]
   rw[hh]at hHa
   obtain⟨j,rfl,hj⟩:=Xn hk
   rw[BJ]
   have hNi:=hok.len (j*5) Y
   refine BO 30 func231 O (AP (iZ ?_))
   refine BL H O (hC _) (Uy O) fun W1 H=>AV (Ea O) (BH O (AO (DC O (eH ?_))))
   refine AQ O (BL H O (hHa H.ents) (aqv O) fun W1 H=>uO ?_)
   refine A8 ?_
   obtain⟨I,hI⟩:∃I,ids (ZK p b F F l)=I:=⟨_,rfl⟩
   rw[hI]at H
   unfold ZK at H
   have hln:=MW H 2 rfl (i:=j*5) Y
   replace H:=H.pull 2 rfl (i:=j*5) Y
   simp only[Bv]at H
   unfold P7 at H
   have hG:∀{W':World} {A2 c2},Heap w I [Ec 1 (.slice A2 ((F (j*5)).n+1) c2) ((F (j*5)).n+1) (((F (j*5)).xs++ [a]).map (Value.int .i64)) 3,blk p (ZG (JJ F (j*5) ⟨A2,(F (j*5)).n+1,c2,(F (j*5)).xs++ [a]⟩) b) 314,mp kF EP.v b l,Yt 3 160 (JJ F (j*5) EP.nil)] W'→amY p b F l (N+1) (Le (xsOf F) (j*5) (xsOf F (j*5)++ [a])) w W':=fun{W' A2 c2} H=>by
    have H2:=Heap.push (r:=⟨A2,(F (j*5)).n+1,c2,(F (j*5)).xs++ [a]⟩) H 2 rfl (i:=j*5) Y (Oy _ _ _)
    rw[Vm]at H2
    refine⟨JJ F (j*5) ⟨A2,(F (j*5)).n+1,c2,(F (j*5)).xs++ [a]⟩,l,by rw[hI];exact H2,(hok.mono Y).aq5 (by show(F (j*5)).n+1≤_;omega),by rw[SH];rfl⟩
   refine G5 mixed ?_;replace H:=H.drew
   refine xw ?_
   refine EC 1 O O O (fun _ hS=>Cc (v:= .int _ _) O) trivial (EC 2 O O O (fun _ hS=>Cc (v:= .pointer _) O) trivial (EC 3 O O O (fun _ hS=>Cc (v:= .int _ _) O) trivial (EC 4 O O O (fun _ hS=>DT O) trivial (EC 5 O O O (fun _ hS=>Cm O L8) trivial (EC 6 O O O (fun _ hS=>Ot (i:=j) O O Y Y underlying312 OE) trivial (EC 8 O O O (fun _ hS=>Cc (v:= .int _ _) O) trivial (EC 11 O O O (fun _ hS=>DT O) trivial (EC 12 O O O (fun _ hS=>Cm O L8) trivial ?_))))))))
   refine Et 7 9 ?_ ?_
   ·refine CB O (AV (DR H 1 O O (Jm hj) KQ) (sU ?_))
    refine rU ?_
    intro q9 _ H';clear H;have H:=H';clear H'
    refine ak ?_
    refine BD 10 O (nJ ?_)
    clear H;intro A2 c2 _ H;simp only[Bv,Nat.reduceAdd]at H
    refine ak ?_
    refine mW ?_
    clear H;refine axS fun _ H=>?_
    refine ak ?_
    refine CU (AX (uP ?_))
    exact⟨rfl,hG H⟩
   ·refine CB O (rU ?_)
    intro q9 _ H';clear H;have H:=H';clear H'
    refine wE ?_
    refine AV (DR H 2 O O (Jm hj) KQ) (ak ?_)
    refine BD 10 O (nJ ?_)
    clear H;intro A2 c2 _ H;simp only[Bv,Nat.reduceAdd]at H
    refine ak ?_
    refine mW ?_
    clear H;refine axS fun _ H=>?_
    refine ak ?_
    refine CU (AX (uP ?_))
    exact⟨rfl,hG H⟩
theorem awY(a b:Int):(if b<a then b else a)=min a b:=by split<;>omega
theorem ami(hE:Dj (ZK p b F F l) w)(hok:ML F l N)(hN:N≤100000)(m k:Int):
 Calls prog 217 [Q7 p,.int .i64 m,.int .i64 k].toArray w fun e w'=>e= .returned (.tuple [.int .i64 (Zr (xsOf F) m k).2.1,.int .i64 (Zr (xsOf F) m k).2.2].toArray)∧amY p b F l (N+4) (Zr (xsOf F) m k).1 w w':=by
 have H:=Heap.start hE
 have hC:=fun W=>asf m k W
 unfold Zr
 by_cases hb:isM m=false∨isC k=false
 ·rw[if_pos hb]
  have e:(isM m&&isC k)=false:=by rcases hb with h|h<;>simp[h]
  simp only[e]at hC
  refine xB ?_
  refine BL H O (hC _) (aku O) fun W1 H=>AV (Ib O) (oV ?_)
  refine nC ?_
  exact⟨rfl,F,l,H,hok.mono Y,rfl⟩
 ·rw[if_neg hb]
  have hm:isM m=true:=by cases h:isM m<;>simp[h]at hb⊢
  have hk:isC k=true:=by cases h:isC k<;>simp[h]at hb⊢
  have e:(isM m&&isC k)=true:=by rw[hm,hk];rfl
  simp only[e]at hC
  obtain⟨m,rfl,hm4⟩:=aom hm
  obtain⟨k,rfl,Jv⟩:=Xn hk
  rw[BJ,BJ]
  have gd:=gdF hm4 Jv
  obtain⟨I,hI⟩:∃I,ids (ZK p b F F l)=I:=⟨_,rfl⟩
  rw[hI]at H
  unfold ZK at H
  have aj0:=MW H 2 rfl (i:=k*5+1+m) Y
  have att:=MW H 2 rfl (i:=k*5) Y
  have atI:=hok.len (k*5+1+m) Y
  have axU:=hok.len (k*5) Y
  replace H:=H.pull 2 rfl (i:=k*5+1+m) Y
  simp only[Bv]at H
  by_cases h0:(F (k*5+1+m)).n=0
  ·
   have hx0:xsOf F (k*5+1+m)=[]:=DU (by show(F (k*5+1+m)).xs.length=0;omega)
   obtain⟨fr,hfr⟩:∃fr,(F (k*5)).n-4=fr:=⟨_,rfl⟩
   have aaU:LY (xsOf F) m k=Le (Le (xsOf F) (k*5) ((F (k*5)).xs.take fr)) (k*5+1+m) ((F (k*5)).xs.drop fr):=by
    unfold LY
    rw[if_pos hx0]
    show Le (Le (xsOf F) (k*5) ((F (k*5)).xs.take ((F (k*5)).xs.length-4))) (k*5+1+m) ((F (k*5)).xs.drop ((F (k*5)).xs.length-4))=_
    rw[att,hfr]
   rw[aaU]
   rw[aei]
   replace H:=H.drop
   replace H:=H.pull 2 rfl (i:=k*5) Y
   simp only[Bv]at H
   rw[Lp _ _ (show k*5≠k*5+1+m by omega)]at H
   have hcg:=Pq H 0 rfl
   unfold P7 at H
   have ZI:((F (k*5)).n:Int)-min ((F (k*5)).n:Int) 4=(fr:Int):=Y
   have hG:∀{l2:Vf} {r1:EP} {W':World},ML (JJ (JJ F (k*5) ⟨(F (k*5)).A,fr,(F (k*5)).c,(F (k*5)).xs.take fr⟩) (k*5+1+m) r1) l2 (N+4)→Heap w I [P7 3 r1,Ec 1 (.slice (F (k*5)).A (F (k*5)).n (F (k*5)).c) (F (k*5)).n ((F (k*5)).xs.map (Value.int .i64)) 3,blk p (ZG (JJ F (k*5) ⟨(F (k*5)).A,fr,(F (k*5)).c,(F (k*5)).xs.take fr⟩) b) 314,mp kF EP.v b l2,Yt 3 160 (JJ (JJ F (k*5+1+m) EP.nil) (k*5) EP.nil)] W'→amY p b F l (N+4) (Le (Le (xsOf F) (k*5) ((F (k*5)).xs.take fr)) (k*5+1+m) r1.xs) w W':=fun{l2 r1 W'} hok2 H=>by
    have h1:=WR (r:=F (k*5)) (m:=fr) H 1 rfl Y
    simp only[Bv]at h1
    have h2:=Heap.push h1 3 rfl (i:=k*5+1+m) Y (by rw[Lp _ _ Y,Oy])
    simp only[Bv]at h2
    have h3:=Heap.push h2 2 rfl (i:=k*5) Y (by rw[Lp _ _ Y,Oy])
    simp only[Bv]at h3
    have eF:JJ (JJ (JJ (JJ F (k*5+1+m) EP.nil) (k*5) EP.nil) (k*5+1+m) r1) (k*5) ⟨(F (k*5)).A,fr,(F (k*5)).c,(F (k*5)).xs.take fr⟩=JJ (JJ F (k*5) ⟨(F (k*5)).A,fr,(F (k*5)).c,(F (k*5)).xs.take fr⟩) (k*5+1+m) r1:=by
     funext i
     unfold JJ
     by_cases e1:i=k*5
     ·subst e1
      rw[if_pos rfl,if_neg Y,if_pos rfl]
     ·rw[if_neg e1]
      by_cases e2:i=k*5+1+m
      ·rw[if_pos e2,if_pos e2]
      ·rw[if_neg e2,if_neg e1,if_neg e2,if_neg e2,if_neg e1]
    rw[eF]at h3
    refine⟨_,l2,?_,hok2,by rw[SH,SH]⟩
    rw[hI]
    unfold ZK
    have e5:ZG (JJ F (k*5) ⟨(F (k*5)).A,fr,(F (k*5)).c,(F (k*5)).xs.take fr⟩) b=ZG (JJ (JJ F (k*5) ⟨(F (k*5)).A,fr,(F (k*5)).c,(F (k*5)).xs.take fr⟩) (k*5+1+m) r1) b:=by
     unfold ZG
     refine Vz fun i hi=>?_
     split
     ·rfl
     ·rw[Lp (i:=k*5+1+m) _ _ Y]
    rw[←e5];exact h3
   obtain⟨A0,c0,hv0⟩:∃A0 c0,((FZ l ((m:Int),(k:Int))).map EP.v).getD (.slice none 0 0)= .slice A0 0 c0:=by
    rcases hok.got m k hm4 Jv with hg|⟨hg,_⟩
    ·rw[hg];exact⟨(F (k*5+1+m)).A,(F (k*5+1+m)).c,by show EP.v _=_;unfold EP.v;rw[h0]⟩
    ·rw[hg];exact⟨none,0,rfl⟩
   have hdl:((F (k*5)).xs.drop fr).length=(F (k*5)).n-fr:=by rw[OL,att]
   refine xB ?_
   refine BL H O (hC _) (aku O) fun W1 H=>eU ?_
   refine AP (AQ O (AQ O (AV (FI (Nh _ _) O) (Ei H O adz fun p8 _ H=>En H 0 O O O O O O O KL ?_))))
   clear H;refine axS fun _ H=>?_
   refine AO (A8 (A8 (k_q mixed Aw H (ay ?_))))
   refine BZ (fun _ H=>Cm O KD) (BZ (fun _ H=>DR H 2 O O O Ky) (BZ (fun _ H=>J5 H 0 O O O MC KL) (BZ (fun _ H=>afQ H 3 O O O (gd) (hv0) underlying311 (IY S9)) (BZ (fun _ H=>Gw O underlying22) (BZ (fun _ H=>D7 O O Y) (Iy ?_))))))
   clear H;intro _ H
   refine AX (EF O (rZ ?_))
   refine AV (al9 O O (awY _ _)) (AY O (AO (rZ ?_)))
   refine AQ O (mD ?_)
   refine AY O (AO (A8 ?_))
   refine Gl (fun f W=>∃A1 c1,f 0=Q7 p∧f 1= .int .i64 m∧f 2= .int .i64 k∧f 8=Q7 p8∧f 10= .int .i64 fr∧Heap w I [Ec 1 (.slice A1 ((F (k*5)).n-fr) c1) ((F (k*5)).n-fr) (((F (k*5)).xs.drop fr).map (Value.int .i64)) 3,blk p8 [.int .i64 m,.int .i64 k] 324,Ec 1 (.slice (F (k*5)).A (F (k*5)).n (F (k*5)).c) (F (k*5)).n ((F (k*5)).xs.map (Value.int .i64)) 3,blk p (ZG F b) 314,mp kF EP.v b (JX l ((m:Int),(k:Int)) ⟨A1,(F (k*5)).n-fr,c1,(F (k*5)).xs.drop fr⟩),Yt 3 160 (JJ (JJ F (k*5+1+m) EP.nil) (k*5) EP.nil)] W) ?_ ?_
   ·refine G5 mixed ?_;replace H:=H.drew
    refine bg ?_
    refine CZ 2 O O O (fun _ hS=>Cm O KD) trivial (CZ 5 O O O (fun _ hS=>Cc (v:= .pointer _) O) trivial (qy ?_))
    refine CZ 7 O O O (fun _ hS=>DT O) trivial (CZ 8 O O O (fun _ hS=>Cm O L8) trivial (CZ 9 O O O (fun _ hS=>Ot (i:=k) O O Y Y underlying312 OE) trivial (CZ 11 O O O (fun _ hS=>Cc (v:= .int _ _) O) trivial ?_)))
    refine Vw 3 4 10 Aw ?_ ?_ ?_
    ·refine pO ?_
     refine Et 4 10 ?_ ?_
     ·refine sK ?_
      refine BD 10 O (gJ ?_)
      refine BD 13 O (bM ?_)
      rintro e W1 ⟨A1,c1,rfl,H'⟩
      refine⟨_,rfl,?_⟩
      have H:=H.more H';clear H';simp only[Bv]at H
      refine qj ?_
      clear H;refine axS fun _ H=>?_
      refine kJ ?_
      exact⟨A1,c1,rfl,rfl,rfl,rfl,by show Value.int _ _=_;rw[ZI],H⟩
     ·refine CB O (gJ ?_)
      refine Et 4 13 ?_ ?_
      ·refine sK ?_
       refine BD 13 O (bM ?_)
       rintro e W1 ⟨A1,c1,rfl,H'⟩
       refine⟨_,rfl,?_⟩
       have H:=H.more H';clear H';simp only[Bv]at H
       refine qj ?_
       clear H;refine axS fun _ H=>?_
       refine kJ ?_
       exact⟨A1,c1,rfl,rfl,rfl,rfl,by show Value.int _ _=_;rw[ZI],H⟩
      ·refine CB O (bM ?_)
       rintro e W1 ⟨A1,c1,rfl,H'⟩
       refine⟨_,rfl,?_⟩
       have H:=H.more H';clear H';simp only[Bv]at H
       refine jd ?_
       refine Dw H 1 O O O MC KL (qj ?_)
       clear H;refine axS fun _ H=>?_
       refine kJ ?_
       exact⟨A1,c1,rfl,rfl,rfl,rfl,by show Value.int _ _=_;rw[ZI],H⟩
    ·refine sK ?_
     refine Et 3 10 ?_ ?_
     ·refine pO ?_
      refine BD 10 O (gJ ?_)
      refine BD 13 O (bM ?_)
      rintro e W1 ⟨A1,c1,rfl,H'⟩
      refine⟨_,rfl,?_⟩
      have H:=H.more H';clear H';simp only[Bv]at H
      refine qj ?_
      clear H;refine axS fun _ H=>?_
      refine kJ ?_
      exact⟨A1,c1,rfl,rfl,rfl,rfl,by show Value.int _ _=_;rw[ZI],H⟩
     ·refine CB O (gJ ?_)
      refine Et 3 13 ?_ ?_
      ·refine pO ?_
       refine BD 13 O (bM ?_)
       rintro e W1 ⟨A1,c1,rfl,H'⟩
       refine⟨_,rfl,?_⟩
       have H:=H.more H';clear H';simp only[Bv]at H
       refine qj ?_
       clear H;refine axS fun _ H=>?_
       refine kJ ?_
       exact⟨A1,c1,rfl,rfl,rfl,rfl,by show Value.int _ _=_;rw[ZI],H⟩
      ·refine CB O (bM ?_)
       rintro e W1 ⟨A1,c1,rfl,H'⟩
       refine⟨_,rfl,?_⟩
       have H:=H.more H';clear H';simp only[Bv]at H
       refine wF ?_
       clear H;refine axS fun _ H=>?_
       refine kJ ?_
       exact⟨A1,c1,rfl,rfl,rfl,rfl,by show Value.int _ _=_;rw[ZI],H⟩
    ·refine CB O (gJ ?_)
     refine Vw 3 4 13 Aw ?_ ?_ ?_
     ·refine pO ?_
      refine Et 4 13 ?_ ?_
      ·refine sK ?_
       refine BD 13 O (bM ?_)
       rintro e W1 ⟨A1,c1,rfl,H'⟩
       refine⟨_,rfl,?_⟩
       have H:=H.more H';clear H';simp only[Bv]at H
       refine qj ?_
       clear H;refine axS fun _ H=>?_
       refine kJ ?_
       exact⟨A1,c1,rfl,rfl,rfl,rfl,by show Value.int _ _=_;rw[ZI],H⟩
      ·refine CB O (bM ?_)
       rintro e W1 ⟨A1,c1,rfl,H'⟩
       refine⟨_,rfl,?_⟩
       have H:=H.more H';clear H';simp only[Bv]at H
       refine jd ?_
       refine Dw H 1 O O O MC KL (qj ?_)
       clear H;refine axS fun _ H=>?_
       refine kJ ?_
       exact⟨A1,c1,rfl,rfl,rfl,rfl,by show Value.int _ _=_;rw[ZI],H⟩
     ·refine sK ?_
      refine Et 3 13 ?_ ?_
      ·refine pO ?_
       refine BD 13 O (bM ?_)
       rintro e W1 ⟨A1,c1,rfl,H'⟩
       refine⟨_,rfl,?_⟩
       have H:=H.more H';clear H';simp only[Bv]at H
       refine qj ?_
       clear H;refine axS fun _ H=>?_
       refine kJ ?_
       exact⟨A1,c1,rfl,rfl,rfl,rfl,by show Value.int _ _=_;rw[ZI],H⟩
      ·refine CB O (bM ?_)
       rintro e W1 ⟨A1,c1,rfl,H'⟩
       refine⟨_,rfl,?_⟩
       have H:=H.more H';clear H';simp only[Bv]at H
       refine wF ?_
       clear H;refine axS fun _ H=>?_
       refine kJ ?_
       exact⟨A1,c1,rfl,rfl,rfl,rfl,by show Value.int _ _=_;rw[ZI],H⟩
     ·refine CB O (bM ?_)
      rintro e W1 ⟨A1,c1,rfl,H'⟩
      refine⟨_,rfl,?_⟩
      have H:=H.more H';clear H';simp only[Bv]at H
      refine ak ?_
      refine Et 3 4 ?_ ?_
      ·refine CB O (AV (DR H 3 O O (G6 F b) Ky) (jd ?_))
       refine Dw H 1 O O O MC KL (qj ?_)
       clear H;refine axS fun _ H=>?_
       refine kJ ?_
       exact⟨A1,c1,rfl,rfl,rfl,rfl,by show Value.int _ _=_;rw[ZI],H⟩
      ·refine CB O (Dw H 1 O O O MC KL (wF ?_))
       clear H;refine axS fun _ H=>?_
       refine kJ ?_
       exact⟨A1,c1,rfl,rfl,rfl,rfl,by show Value.int _ _=_;rw[ZI],H⟩
   ·clear H
    rintro f W ⟨A1,c1,f0,f1,f2,f8,f10,H⟩
    obtain⟨f,rfl⟩:=OJ f0 f1 f2 f8 f10
    clear f0 f1 f2 f8 f10
    have hg1:=Y3 l ((m:Int),(k:Int)) (⟨A1,(F (k*5)).n-fr,c1,(F (k*5)).xs.drop fr⟩:EP)
    have hok1:=((hok.mono (show N≤N+4 by omega)).aq5 (k:=k) (r:=⟨(F (k*5)).A,fr,(F (k*5)).c,(F (k*5)).xs.take fr⟩) (by show fr≤_;omega)).own hm4 Jv (r:=⟨A1,(F (k*5)).n-fr,c1,(F (k*5)).xs.drop fr⟩) (by show(F (k*5)).n-fr≤_;omega)
    by_cases hg0:(F (k*5)).n=0
    ·have hd0:(F (k*5)).xs.drop fr=[]:=DU Y
     have hz:(F (k*5)).n-fr=0:=Y
     rw[if_pos hd0]
     refine AX (fB ?_)
     clear H;intro _ H
     refine aeZ H 3 O O O O (Jm Jv) (Yg (r:=⟨(F (k*5)).A,fr,(F (k*5)).c,(F (k*5)).xs.take fr⟩) Jv) O OE ?_
     clear H;refine axS fun _ H=>?_
     refine AO (A8 (k_q mixed Aw H (iM ?_)))
     refine BZ (fun _ H=>J5 H 1 O O O MC KL) ?_
     refine ab8 O O (fun _ H=>afQ H 4 O O O (gd) ((by rw[hg1];rfl:((FZ _ _).map EP.v).getD (.slice none 0 0)= .slice A1 ((F (k*5)).n-fr) c1)) underlying311 (IY S9)) ?_
     refine BZ (fun _ H=>DK (v:= .slice _ _ _) O) (Iy ?_)
     clear H;intro _ H
     refine AX (sS ?_)
     refine AV (D7 O O Y) (oV ?_)
     refine nC ?_
     exact⟨rfl,hG hok1 (H.BQ [0,2,3,4,5] rfl rfl)⟩
    ·have hd0:(F (k*5)).xs.drop fr≠[]:=fun e=>by rw[e]at hdl;simp at hdl;omega
     rw[if_neg hd0]
     obtain⟨n1,hn1⟩:∃n1,(F (k*5)).n-fr=n1:=⟨_,rfl⟩
     rw[hn1]at H hg1 hok1 hdl
     have hc1:=Pq H 0 rfl
     obtain⟨q1,hq1⟩:=Heap.JO H 0 rfl Y
     subst hq1
     obtain⟨y,hy⟩:∃y,((F (k*5)).xs.drop fr)[n1-1]? =some y:=⟨_,Ba Y⟩
     have hyd:((F (k*5)).xs.drop fr).getD (((F (k*5)).xs.drop fr).length-1) 0=y:=by rw[hdl,BN,hy];rfl
     rw[hyd,hdl]
     have hok2:=hok1.own hm4 Jv (r:=⟨some ⟨q1,0,none⟩,n1-1,c1,((F (k*5)).xs.drop fr).take (n1-1)⟩) (by show n1-1≤_;omega)
     rw[Vm]at hok2
     refine AX (fB ?_)
     clear H;intro _ H
     refine aeZ H 3 O O O O (Jm Jv) (Yg (r:=⟨(F (k*5)).A,fr,(F (k*5)).c,(F (k*5)).xs.take fr⟩) Jv) O OE ?_
     clear H;refine axS fun _ H=>?_
     refine AO (A8 (k_q mixed Aw H (iM ?_)))
     refine BZ (fun _ H=>J5 H 1 O O O MC KL) ?_
     refine ab8 O O (fun _ H=>afQ H 4 O O O (gd) ((by rw[hg1];rfl:((FZ _ _).map EP.v).getD (.slice none 0 0)= .slice (some ⟨q1,0,none⟩) n1 c1)) underlying311 (IY S9)) ?_
     refine BZ (fun _ H=>DK (v:= .slice _ _ _) O) (Iy ?_)
     clear H;intro _ H
     refine AX (sS ?_)
     refine kC ?_
     refine A8 (XT 10 mixed Aw H O O (iM ?_))
     refine BZ (fun _ H=>J5 H 1 O O O MC KL) (fA ?_)
     refine fA ?_
     refine iL ?_
     refine BZ (fun _ H=>P6 (j:=n1-1) O O Y Y underlying22 Ji) (Iy ?_)
     clear H;intro _ H
     refine QO (q:=⟨some ⟨q1,0,none⟩,n1-1,c1,((F (k*5)).xs.drop fr).take (n1-1)⟩) H 4 O O O O O (gd) underlying311 ?_
     clear H;refine axS fun _ H=>?_
     refine AO (vW ?_)
     refine AV (H8 (i:=(n1-1)) O O Y Y underlying22 Ji) (AV (XJ H 0 O O hy FM) (nS ?_))
     have h1:=WR (r:=⟨some ⟨q1,0,none⟩,n1,c1,(F (k*5)).xs.drop fr⟩) (m:=n1-1) H 0 rfl (by show n1-1≤n1;omega)
     simp only[Bv]at h1
     have h2:=hG hok2 (h1.BQ [0,2,3,4,5] rfl rfl)
     rw[ani]
     exact⟨rfl,h2⟩
  ·have hg:FZ l ((m:Int),(k:Int))=some (F (k*5+1+m)):=(hok.got m k hm4 Jv).resolve_right (fun h=>h0 (by rw[h.2];rfl))
   have aaU:LY (xsOf F) m k=xsOf F:=by
    unfold LY
    rw[if_neg (fun e=>h0 zD)]
   rw[aaU]
   have hne:¬xsOf F (k*5+1+m)=[]:=fun e=>h0 zD
   rw[if_neg hne]
   have hxs:xsOf F (k*5+1+m)=(F (k*5+1+m)).xs:=rfl
   rw[hxs]
   obtain⟨r,hr⟩:∃r,F (k*5+1+m)=r:=⟨_,rfl⟩
   rw[hr]at H aj0 hg h0 atI⊢
   obtain⟨A,n,c,xs⟩:=r
   simp only at aj0 h0 atI⊢
   unfold P7 at H
   simp only at H
   have hcap:=Pq H 0 rfl
   obtain⟨q1,rfl⟩:=Heap.JO H 0 rfl h0
   obtain⟨y,hy⟩:∃y,xs[n-1]? =some y:=⟨_,Ba Y⟩
   have hyd:xs.getD (xs.length-1) 0=y:=by rw[aj0,BN,hy];rfl
   rw[hyd,aj0]
   have hok2:=(hok.mono (show N≤N+4 by omega)).own hm4 Jv (r:=⟨some ⟨q1,0,none⟩,n-1,c,xs.take (n-1)⟩) (by show n-1≤_;omega)
   refine xB ?_
   refine BL H O (hC _) (aku O) fun W1 H=>eU ?_
   refine AP (AQ O (AQ O (AV (FI (Nh _ _) O) (Ei H O adz fun p8 _ H=>En H 0 O O O O O O O KL ?_))))
   clear H;refine axS fun _ H=>?_
   refine AO (A8 (A8 (k_q mixed Aw H (jy ?_))))
   refine ab8 O O (fun _ H=>afQ H 3 O O O (gd) ((by rw[hg];rfl:((FZ _ _).map EP.v).getD (.slice none 0 0)= .slice (some ⟨q1,0,none⟩) n c)) underlying311 (IY S9)) ?_
   refine BZ (fun _ H=>Gw O underlying22) (BZ (fun _ H=>D5 O O Y) (Iy ?_))
   clear H;intro _ H
   refine AX (DC O (Bj (AX (A8 (k_q mixed Aw H (jy ?_))))))
   refine ab8 O O (fun _ H=>afQ H 3 O O O (gd) ((by rw[hg];rfl:((FZ _ _).map EP.v).getD (.slice none 0 0)= .slice (some ⟨q1,0,none⟩) n c)) underlying311 (IY S9)) ?_
   refine BZ (fun _ H=>DK (v:= .slice _ _ _) O) (Iy ?_)
   clear H;intro _ H
   refine AX (sS ?_)
   refine kC ?_
   refine A8 (XT 10 mixed Aw H O O (jy ?_))
   refine fA ?_
   refine fA ?_
   refine iL ?_
   refine BZ (fun _ H=>P6 (j:=n-1) O O Y Y underlying22 Ji) (Iy ?_)
   clear H;intro _ H
   refine QO (q:=⟨some ⟨q1,0,none⟩,n-1,c,xs.take (n-1)⟩) H 3 O O O O O (gd) underlying311 ?_
   clear H;refine axS fun _ H=>?_
   refine AO (vW ?_)
   refine AV (H8 (i:=(n-1)) O O Y Y underlying22 Ji) (AV (XJ H 1 O O hy FM) (nS ?_))
   replace H:=H.drop
   have h1:=WR (r:=⟨some ⟨q1,0,none⟩,n,c,xs⟩) (m:=n-1) H 0 rfl (by show n-1≤n;omega)
   simp only[Bv]at h1
   have h2:=Heap.push h1 2 rfl (i:=k*5+1+m) Y (Oy _ _ _)
   rw[Vm]at h2
   refine⟨rfl,_,_,?_,hok2,by rw[SH]⟩
   rw[hI]
   unfold ZK
   have e5:ZG F b=ZG (JJ F (k*5+1+m) ⟨some ⟨q1,0,none⟩,n-1,c,xs.take (n-1)⟩) b:=by
    unfold ZG
    refine Vz fun i hi=>?_
    split
    ·rfl
    ·rw[Lp (i:=k*5+1+m) _ _ Y]
   rw[←e5];exact h2
end
end
end
section
section
structure PK (M:Nat→Nat) (S:TG):Prop where
 m4:∀c,M c<4
 al:∀c,c<32→∀j,j<4→j≠M c→S (c*5+1+j)=[]
 nd:∀c,c<32→(cls S c).Nodup
theorem aeQ{k:Nat}(h:k<32):isC (k:Int)=true:=decide_eq_true ⟨Y,Y⟩
theorem amo{m:Nat}(h:m<4):isM (m:Int)=true:=decide_eq_true ⟨Y,Y⟩
section
variable{M:Nat→Nat}{S:TG}
theorem PK.cls(h:PK M S){c:Nat}(hc:c<32):cls S c=S (c*5)++S (c*5+1+M c):=by
 unfold Go.Proofs.YtppilhpcmkekbaaGreat.cls
 have h4:=h.m4 c
 have a:=h.al c hc
 have a0:=a 0 Y
 have a1:=a 1 Y
 have a2:=a 2 Y
 have a3:=a 3 Y
 rcases(by omega:M c=0∨M c=1∨M c=2∨M c=3)with e|e|e|e
 all_goals
  rw[e]at a0 a1 a2 a3⊢
  simp only[show c*5+1+0=c*5+1 from rfl,show c*5+1+1=c*5+2 from rfl,show c*5+1+2=c*5+3 from rfl,show c*5+1+3=c*5+4 from rfl]at a0 a1 a2 a3⊢
 ·rw[a1 Y,a2 Y,a3 Y];simp
 ·rw[a0 Y,a2 Y,a3 Y];simp
 ·rw[a0 Y,a1 Y,a3 Y];simp
 ·rw[a0 Y,a1 Y,a2 Y];simp
theorem PK.nil(hM:∀c,M c<4):PK M (xsOf Pz):=⟨hM,fun _ _ _ _ _=>rfl,fun _ _=>by simp[Go.Proofs.YtppilhpcmkekbaaGreat.cls,xsOf,Pz,EP.nil]⟩
theorem ahM(h:PK M S){c:Nat}(hc:c<32){a:Int}(ha:a∉cls S c):∃S',afr S c a=(S',0)∧PK M S'∧(cls S' c).Perm (cls S c++ [a])∧∀j,j≠c→cls S' j=cls S j:=by
 have hp:=agQ S c a
 refine⟨Le S (c*5) (S (c*5)++ [a]),?_,⟨h.m4,fun c2 hc2 j h2 h5=>?_,fun c2 hc2=>?_⟩,hp,fun j hj=>VW Y⟩
 ·unfold afr akc
  rw[aeQ hc,BJ,decide_eq_false ha]
  simp
 ·rw[KN _ _ Y];exact h.al c2 hc2 j h2 h5
 ·by_cases e:c2=c
  ·subst e
   rw[hp.nodup_iff,C9]
   exact⟨h.nd c2 hc2,J,fun x hx y hy e=>ha (by rw[Bz.1 hy]at e;rw[←e];exact hx)⟩
  ·rw[VW Y];exact h.nd c2 hc2
theorem ah6(h:PK M S){c:Nat}(hc:c<32):PK M (LY S (M c) c)∧(∀j,(cls (LY S (M c) c) j).Perm (cls S j)):=by
 have h4:=h.m4 c
 have hp:∀j,(cls (LY S (M c) c) j).Perm (cls S j):=fun j=>by
  by_cases e:j=c
  ·subst e;exact ahd S (M j) j h4
  ·unfold LY
   split
   ·rw[VW Y,VW Y]
   ·exact QB _
 refine⟨⟨h.m4,fun c2 hc2 j h2 h5=>?_,fun c2 hc2=>(hp c2).nodup_iff.2 (h.nd c2 hc2)⟩,hp⟩
 unfold LY
 split
 ·by_cases e:c2=c
  ·subst e
   rw[KN _ _ Y,KN _ _ Y];exact h.al c2 hc2 j h2 h5
  ·rw[KN _ _ Y,KN _ _ Y];exact h.al c2 hc2 j h2 h5
 ·exact h.al c2 hc2 j h2 h5
theorem anl(h:PK M S){c:Nat}(hc:c<32)(h0:cls S c=[]):∃S',Zr S (M c:Nat) c=(S',0,4)∧PK M S'∧∀j,(cls S' j).Perm (cls S j):=by
 obtain⟨h1,h2⟩:=ah6 h hc
 refine⟨LY S (M c) c,?_,h1,h2⟩
 rw[h.cls hc]at h0
 obtain⟨e1,e2⟩:=List.append_eq_nil_iff.1 h0
 have e3:LY S (M c) c (c*5+1+M c)=[]:=by
  unfold LY
  rw[if_pos e2,aei,e1];rfl
 unfold Zr
 rw[if_neg (by rw[aeQ hc,amo (h.m4 c)];simp)]
 rw[BJ,BJ,if_pos e3]
theorem ahQ(h:PK M S){c:Nat}(hc:c<32)(h0:cls S c≠[]):∃S' a,Zr S (M c:Nat) c=(S',a,0)∧PK M S'∧(cls S' c++ [a]).Perm (cls S c)∧∀j,j≠c→(cls S' j).Perm (cls S j):=by
 obtain⟨h1,h2⟩:=ah6 h hc
 have h4:=h.m4 c
 have hne:LY S (M c) c (c*5+1+M c)≠[]:=by
  rw[h.cls hc]at h0
  unfold LY
  split
  ·rename_i e
   rw[e,Dl]at h0
   rw[aei]
   intro h3
   have:=congrArg List.length h3
   rw[OL,Iu]at this
   have:=Hg.2 h0
   omega
  ·assumption
 generalize hX:LY S (M c) c=X at*
 have hl:=aiX _ hne
 have hp:(cls (Le X (c*5+1+M c) ((X (c*5+1+M c)).take ((X (c*5+1+M c)).length-1))) c++ [(X (c*5+1+M c)).getD ((X (c*5+1+M c)).length-1) 0]).Perm (cls S c):=by
  refine .trans (abA fun z=>?_) (h2 c)
  have h3:=Zj X (M c) c h4 ((X (c*5+1+M c)).take ((X (c*5+1+M c)).length-1)) z
  have h4:=congrArg (List.count z) hl
  rw[Mc]at h4⊢
  omega
 refine⟨_,_,?_,⟨h.m4,fun c2 hc2 j hj2 hj5=>?_,fun c2 hc2=>?_⟩,hp,fun j hj=>?_⟩
 ·unfold Zr
  rw[if_neg (by rw[aeQ hc,amo (h.m4 c)];simp)]
  rw[BJ,BJ,hX,if_neg hne]
 ·by_cases e:c2=c
  ·subst e
   rw[KN _ _ Y];exact h1.al c2 hc2 j hj2 hj5
  ·rw[KN _ _ Y];exact h1.al c2 hc2 j hj2 hj5
 ·by_cases e:c2=c
  ·subst e
   have:=hp.nodup_iff.2 (h.nd c2 hc2)
   exact(C9.1 this).1
  ·rw[VW Y];exact h1.nd c2 hc2
 ·rw[VW Y];exact h2 j
theorem asa(h:PK M S){c:Nat}(hc:c<32)(f t:Int):PK M (MN S c f t 5):=by
 refine⟨h.m4,fun c2 hc2 j h2 h5=>?_,fun c2 hc2=>?_⟩
 ·unfold MN
  rw[h.al c2 hc2 j h2 h5]
  split<;>rfl
 ·by_cases e:c2=c
  ·subst e
   rw[agz];exact(h.nd c2 hc2).filter _
  ·rw[agl S c c2 f t e];exact h.nd c2 hc2
end
theorem arj(S:TG){i:Nat}:(S i).length≤(cls S (i/5)).length:=by
 unfold cls
 simp only[Cj]
 rcases(by omega:i=i/5*5∨i=i/5*5+1∨i=i/5*5+2∨i=i/5*5+3∨i=i/5*5+4)with e|e|e|e|e
 all_goals
  have h:=congrArg (fun x=>(S x).length) e
  omega
end
end
section
section
open Go.RowKit
section
variable{P:Program}{n:Sz}{f:Nat→Value}{W:World}{dst:Option Tmp}{ty:TypeId}{pos:String}{af:Array Edge}{g:Option (Nat×Bool)}{x y:Operand}{k k2:IntKind}{a b c:Int}{t t2:TypeId}
theorem al0{s:Nat}(hx:ev n f x= .int k a)(hy:ev n f y= .int k2 b)(hb:b=(s:Int))(hs:s≤k.bits)(hr:a.fdiv (2^s)=c):(execOp (ev n f) ⟨dst,.binOp .shr t x y t2,ty,pos,af,g⟩).run P W= .ok (.value (.int k c)) W:=by
 subst hb
 have h1:min s k.bits=s:=Lj hs
 have h2:¬(s:Int)<0:=Y
 simp[execOp,hx,hy,eqGuard,binOp,Op.shift,h1,h2,hr]
theorem akS{s:Nat}(hx:ev n f x= .int k a)(hy:ev n f y= .int k2 b)(hb:b=(s:Int))(hs:s≤k.bits)(hr:k.wrap (a*2^s)=c):(execOp (ev n f) ⟨dst,.binOp .shl t x y t2,ty,pos,af,g⟩).run P W= .ok (.value (.int k c)) W:=by
 subst hb
 have h1:min s k.bits=s:=Lj hs
 have h2:¬(s:Int)<0:=Y
 simp[execOp,hx,hy,eqGuard,binOp,Op.shift,h1,h2,hr]
theorem fdiv_pow(X s:Nat):((X:Int)).fdiv (2^s)=((X/2^s:Nat):Int):=by
 rw[←Bt.Pg,Int.fdiv_eq_ediv_of_nonneg _ (Int.natCast_nonneg _)];exact(Nq ..).symm
theorem apG(hx:ev n f x= .int k a)(hy:ev n f y= .int k b)(hr:bits .and k a b=c):(execOp (ev n f) ⟨dst,.binOp .and t x y t2,ty,pos,af,g⟩).run P W= .ok (.value (.int k c)) W:=by
 simp[execOp,hx,hy,eqGuard,binOp,intBits_and,hr]
theorem awJ(hx:ev n f x= .int k a)(hy:ev n f y= .int k b)(hr:bits .or k a b=c):(execOp (ev n f) ⟨dst,.binOp .or t x y t2,ty,pos,af,g⟩).run P W= .ok (.value (.int k c)) W:=by
 simp[execOp,hx,hy,eqGuard,binOp,intBits_or,hr]
theorem ak9(hx:ev n f x= .int k a)(hy:ev n f y= .int k b)(hr:bits .andNot k a b=c):(execOp (ev n f) ⟨dst,.binOp .andNot t x y t2,ty,pos,af,g⟩).run P W= .ok (.value (.int k c)) W:=by
 simp[execOp,hx,hy,eqGuard,binOp,intBits_andNot,hr]
end
def II(p b:Nat)(A:Option Addr)(c:Nat)(l:List Bool):List FU:=[blk p [.slice A (Bm.nw l) c,.int .i64 l.length,.int .i64 (Bm.cnt l)] 193,vec (Value.int .u64) b (Bm.ws l) 26]
structure Gn (b:Nat) (A:Option Addr) (c:Nat) (l:List Bool):Prop where
 row:Bm.nw l≠0→A=some ⟨b,0,none⟩
 len:l.length≤131072
theorem ak8(p b:Nat)(A:Option Addr)(c:Nat)(l:List Bool):∀E∈II p b A c l,Cel E:=VX (ag9 _ _ _) (VX (asC _ _ _ _) agH)
abbrev pt(b:Nat):Value:= .pointer (some ⟨b,0,none⟩)
section
variable{p b:Nat}{A:Option Addr}{c:Nat}{l:List Bool}(hk:Gn b A c l)(w:World)(hE:Dj (II p b A c l) w)
include hE
theorem bIn(x:Int):Calls prog 123 [pt p,.int .i64 x].toArray w fun e w'=>e= .returned (.bool (decide (0≤x∧x<l.length)))∧Only [] w w':=by
 have HR:=Heap.start hE
 have H:=Heap.nil w
 unfold II at HR
 by_cases h1:0≤x
 ·by_cases h2:x<l.length
  ·rw[decide_eq_true ⟨h1,h2⟩]
   refine sG ?_
   refine Bo 7 O (DI O O Y) (uh ?_)
   exact⟨rfl,H.only⟩
  ·rw[decide_eq_false (fun h=>h2 h.2)]
   refine sG ?_
   refine Bo 7 O (Di O O Y) (uh ?_)
   exact⟨rfl,H.only⟩
 ·rw[decide_eq_false (fun h=>h1 h.1)]
  refine BO 15 func123 O (rF ?_)
  refine AV (Fz O O Y) (BX O (xq ?_))
  refine Df 7 O O (DW O O (iP ?_))
  exact⟨rfl,H.only⟩
theorem auW:Calls prog 189 [pt p].toArray w fun e w'=>e= .returned (.int .i64 (Bm.cnt l))∧Only [] w w':=by
 have HR:=Heap.start hE
 have H:=Heap.nil w
 unfold II at HR
 refine BO 7 func189 O (oM ?_)
 refine dL ?_
 refine BI O TN (jl ?_)
 refine eu ?_
 exact⟨rfl,H.only⟩
theorem aq0:Calls prog 254 [pt p].toArray w fun e w'=>e= .returned (.int .i64 l.length)∧Only [] w w':=by
 have HR:=Heap.start hE
 have H:=Heap.nil w
 unfold II at HR
 refine BO 7 func254 O (oM ?_)
 refine dL ?_
 refine BI O XM (jl ?_)
 refine eu ?_
 exact⟨rfl,H.only⟩
include hk
theorem aeu(x:Int):Calls prog 124 [pt p,.int .i64 x].toArray w fun e w'=>e= .returned (.bool (decide (0≤x)&&Bm.at_ l x.toNat))∧Only [] w w':=by
 have HR:=Heap.start hE
 have H:=Heap.nil w
 have hI:=fun w' (H:Heap w [] [] w')=>bIn w' (HR.same H.only).ents x
 have hlen:=hk.len
 by_cases hin:0≤x∧x<l.length
 ·rw[decide_eq_true hin]at hI
  obtain⟨i,rfl⟩:=BR hin.1
  have hi:i<l.length:=Y
  obtain rfl:=hk.row zJ
  have hnw:i/64<Bm.nw l:=by unfold Bm.nw;omega
  rw[decide_eq_true hin.1,Gy,BJ]
  have hb:=Bm.av5 (Bm.wd l (i/64)) (i%64) (Bm.afk _ _)
  have hbit:=Bm.Si l (i/64) (i%64)
  rw[show 64*(i/64)+i%64=i by omega,decide_eq_true (show i%64<64 by omega),Gy]at hbit
  rw[hbit]at hb
  unfold II at HR
  cases hat:Bm.at_ l i with
  |true=>
   rw[hat,if_pos rfl]at hb
   refine BO 24 func124 O (uV ?_)
   refine eH ?_
   refine BL H O (hI _ H) (acZ O) fun W1 H=>BX O (eY ?_)
   refine Bo 8 O (D7 O O Y) (uh ?_)
   exact⟨rfl,H.only⟩
  |false=>
   rw[hat,if_neg J]at hb
   refine BO 24 func124 O (uV ?_)
   refine eH ?_
   refine BL H O (hI _ H) (acZ O) fun W1 H=>BX O (eY ?_)
   refine Bo 8 O (D5 O O Y) (uh ?_)
   exact⟨rfl,H.only⟩
 ·have hz:(decide (0≤x)&&Bm.at_ l x.toNat)=false:=by
   by_cases h0:0≤x
   ·rw[Bm.at_out Y];simp
   ·simp[h0]
  rw[hz]
  rw[decide_eq_false hin]at hI
  unfold II at HR
  refine BO 24 func124 O (uV ?_)
  refine eH ?_
  refine BL H O (hI _ H) (acZ O) fun W1 H=>BX O (pz ?_)
  refine pz ?_
  refine DW O O (iP ?_)
  exact⟨rfl,H.only⟩
end
end
end
section
section
open Go.RowKit
section
variable{P:Program}{ops:Array Oper}{rest:List Oper}{n:Sz}{k:Nat}{f:Nat→Value}{W W' w0:World}{F:List Nat}{L:List FU}{Q:Exit→Act→World→Prop}{ty:TypeId}{pos:String}{af:Array Edge}{g:Option (Nat×Bool)}{x:Operand}{v:Value}{t e:TypeId}{o:Oper}
theorem ap3(hd:o.dst=none)(hw:Region.wanted o (yl n f ops)=true)(hr:(execOp (ev n f) o).run P W= .ok (.value v) W')(h:SL P ops Q rest n f W'):SL P ops Q (o::rest) n f W:=by
 have hy:yielded ops (Fn n f).tmps=yl n f ops:=funext (Ri n f ops)
 have hr':(execOp (Fn n f).eval o).run P W= .ok (.value v) W':=by rw[JC];exact hr
 refine⟨?_,fun l0 m=>?_⟩
 ·refine jg ?_
  rw[hr',Oper.upon_value,hd]
  exact h.out
 ·refine nN ?_
  refine Vt hr' (fun d=>by intro e;cases e) ?_
  rw[Oper.uponIn_value,hd]
  exact h.inr l0 m
theorem an3{α:Type}{enc:α→Value}{z:α}{p l c bytes:Nat}{xs:List α}{T:TypeId}(H:Heap w0 F L W)(j:Nat)(hw:Region.wanted ⟨none,.call ⟨.builtin .clear,#[x],#[t]⟩,ty,pos,af,g⟩ (yl n f ops)=true)
 (hx:ev n f x= .slice (some ⟨p,0,none⟩) l c) (hj:L[j]? =some (vec enc p xs T)) (hl:xs.length=l) (h0:l≠0) (ht:P.underlying t=some (.slice e)) (hi:Inf P e (enc z) 1 bytes) (h1:(enc z).oneCell'=true)
 (h:∀W',Heap w0 F (L.set j (vec enc p (List.replicate l z) T)) W'→SL P ops Q rest n f W'):SL P ops Q (⟨none,.call ⟨.builtin .clear,#[x],#[t]⟩,ty,pos,af,g⟩::rest) n f W:=by
 subst hl
 obtain⟨rs,hr⟩:=H.RH j hj h0
 obtain⟨i,hi0,hz0,hsz,_⟩:=hi.ex
 have hrep:List.replicate xs.length (enc z)=(List.replicate xs.length z).map enc:=by simp
 have hst:=run_storeCells_at P p 0 T (List.replicate xs.length (enc z)) 0 _ W hr J (fun v hv=>by rw[(QJ.1 hv).2];exact h1)
 have H2:=H.ahr j hj (o:=0) (ys:=List.replicate xs.length z) h0 J hr
 rw[←hrep]at H2
 simp only[KJ,Ey,EH,Dn,O7,Dl,Kt]at hst H2
 have hrun:(Builtin.clear_ #[t] ty #[.slice (some ⟨p,0,none⟩) xs.length c]).run P W= .ok (.tuple #[]) (W.setRow p (List.replicate xs.length (enc z)++(xs.map enc++rs).drop xs.length).toArray):=by
  have hz1:(zeroValue e).run P W= .ok (enc z) W:=by simp[zeroValue,typeInfo,hi0,hz0]
  obtain⟨m,hm⟩:=Jg h0
  rw[hm]at hst⊢
  simp[Builtin.clear_,run_underlying ht,hz1,Wv _ _ (JL h1),hst]
 exact ap3 (v:= .tuple #[]) rfl hw Ah (h _ H2)
theorem ali{A:Option Addr}{c:Nat}(H:Heap w0 F L W)(hw:Region.wanted ⟨none,.call ⟨.builtin .clear,#[x],#[t]⟩,ty,pos,af,g⟩ (yl n f ops)=true)
 (hx:ev n f x= .slice A 0 c) (ht:P.underlying t=some (.slice e))
 (h:∀W',Heap w0 F L W'→SL P ops Q rest n f W'):SL P ops Q (⟨none,.call ⟨.builtin .clear,#[x],#[t]⟩,ty,pos,af,g⟩::rest) n f W:=by
 have hrun:(Builtin.clear_ #[t] ty #[.slice A 0 c]).run P W= .ok (.tuple #[]) W:=by
  cases A<;>simp[Builtin.clear_,run_underlying ht]
 exact ap3 (v:= .tuple #[]) rfl hw Ah (h _ H)
end
theorem wrapN(AA:Nat)(h:AA<18446744073709551616):IntKind.u64.wrap (AA:Int)=AA:=wU Y
theorem afa{p b:Nat}{A:Option Addr}{c:Nat}{l:List Bool}{i:Nat}{v:Bool}{w W:World}{F:List Nat}{L:List FU}(h:i<l.length)(n:Int)(hn:n=Bm.cnt (l.set i v))(X:Int)(hX:X=((Bm.wd (l.set i v) (i/64):Nat):Int))
 (H:Heap w F (blk p [.slice A (Bm.nw l) c,.int .i64 l.length,.int .i64 n] 193::vec (Value.int .u64) b ((Bm.ws l).set (i/64) X) 26::L) W):Heap w F (II p b A c (Bm.put l i v)++L) W:=by
 subst hn;subst hX
 rw[Bm.RU v h]
 rw[Bm.asJ l i v h]at H
 unfold II
 have e1:Bm.nw (l.set i v)=Bm.nw l:=by simp[Bm.nw]
 have e2:(l.set i v).length=l.length:=by simp
 rw[e1,e2];exact H
section
variable{p b:Nat}{A:Option Addr}{c:Nat}{l:List Bool}(hk:Gn b A c l)(w:World)(hE:Dj (II p b A c l) w)
include hE hk
theorem adT(x:Int):Calls prog 57 [pt p,.int .i64 x].toArray w fun e w'=>e= .returned (.bool (decide (0≤x∧x<l.length)&& !Bm.has l x))∧Heap w (ids (II p b A c l)) (II p b A c (Bm.put l x true)) w':=by
 have H:=Heap.start hE
 generalize ids (II p b A c l)=F at*
 have hI:=fun w' (H:Heap w F (II p b A c l) w')=>bIn w' H.ents x
 have hH:=fun w' (H:Heap w F (II p b A c l) w')=>aeu hk w' H.ents x
 have hlen:=hk.len
 have hcn:=Bm.cnt_le l
 by_cases hin:0≤x∧x<l.length
 ·rw[decide_eq_true hin]at hI
  obtain⟨i,rfl⟩:=BR hin.1
  have hi:i<l.length:=Y
  have hA:=hk.row zJ
  have hnw:i/64<Bm.nw l:=by unfold Bm.nw;omega
  rw[decide_eq_true hin,Gy,Bm.U9]
  rw[decide_eq_true hin.1,Gy,BJ]at hH
  cases hat:Bm.at_ l i with
  |true=>
   rw[hat]at hH
   rw[Bm.RU true hi,Bm.set_self hi hat]
   refine BO 35 func57 O (uV ?_)
   refine A8 (eH ?_)
   refine BL H O (hI _ H) (acZ O) fun W1 H=>AV (Ea O) (BX O (Bo 9 O (Ls O) (Bo 9 O (Gm O) (s_call (ET 9 Aw O) (hH _ H) (Qb O) ?_))))
   rintro e W1 ⟨rfl,H'⟩
   refine⟨_,rfl,?_⟩
   have H:=H.same H';clear H'
   refine DW O O (AO (EF O (mX ?_)))
   exact⟨rfl,H⟩
  |false=>
   rw[hat]at hH
   have hon:=Bm.asO l i hi
   have hp2:(2:Nat)^(i%64)<18446744073709551616:=by have:=(Bt.aai (i%64) Y).2;omega
   have hor:=u64_or_nat (Bm.wd l (i/64)) (2^(i%64)) (Bm.afk _ _) hp2
   rw[hon]at hor
   have hcnt:=Bm.ahB l i hi hat
   have hpw:IntKind.u64.wrap (1*2^(i%64))=((2^(i%64):Nat):Int):=by
    rw[Rw,←Bt.Pg];exact wrapN _ hp2
   have hgz:=Bm.U6 l _ hnw
   have hwl:(Bm.ws l).length=Bm.nw l:=Bm.WO l
   rw[hA]at H hI hH⊢
   refine BO 35 func57 O (uV ?_)
   refine A8 (eH ?_)
   refine BL H O (hI _ H) (acZ O) fun W1 H=>AV (Ea O) (BX O (Bo 9 O (Ls O) (Bo 9 O (Gm O) (s_call (ET 9 Aw O) (hH _ H) (Qb O) ?_))))
   rintro e W1 ⟨rfl,H'⟩
   refine⟨_,rfl,?_⟩
   have H:=H.same H';clear H';unfold II at H
   refine gQ ?_
   refine lX ?_
   refine AV (awJ O O hor) (wZ ?_)
   clear H;refine axS fun _ H=>?_
   refine uj ?_
   refine BI O TN (fV ?_)
   refine dw ?_
   refine BU O (BI O TN (dI ?_))
   clear H;refine axS fun _ H=>?_
   refine AO (AP (iP ?_))
   refine⟨rfl,?_⟩
   have:=afa (v:=true) (L:=[]) hi _ (by rw[hcnt];rfl) _ rfl H
   simpa using this
 ·rw[decide_eq_false hin]at hI
  rw[Bm.V7 true hin,decide_eq_false hin,Jc]
  refine BO 35 func57 O (uV ?_)
  refine A8 (eH ?_)
  refine BL H O (hI _ H) (acZ O) fun W1 H=>AV (Ib O) (BX O (Df 9 O O (Df 9 O O (Df 9 O O (EZ O O (AO (EF O (mX ?_))))))))
  exact⟨rfl,H⟩
theorem apu(x:Int):Calls prog 94 [pt p,.int .i64 x].toArray w fun e w'=>e= .returned (.bool (Bm.has l x))∧Heap w (ids (II p b A c l)) (II p b A c (Bm.put l x false)) w':=by
 have H:=Heap.start hE
 generalize ids (II p b A c l)=F at*
 have hH:=fun w' (H:Heap w F (II p b A c l) w')=>aeu hk w' H.ents x
 have hlen:=hk.len
 have hcn:=Bm.cnt_le l
 have hhas:(decide (0≤x)&&Bm.at_ l x.toNat)=Bm.has l x:=rfl
 rw[hhas]at hH
 cases hat:Bm.has l x with
 |true=>
  rw[hat]at hH
  have hin:0≤x∧x<l.length:=by
   refine Ny fun hn=>?_
   rw[Bm.anP hn]at hat;cases hat
  obtain⟨i,rfl⟩:=BR hin.1
  rw[Bm.U9]at hat
  have hi:i<l.length:=Y
  have hA:=hk.row zJ
  have hnw:i/64<Bm.nw l:=by unfold Bm.nw;omega
  have hon:=Bm.aqR l i hi
  have hp2:(2:Nat)^(i%64)<18446744073709551616:=by have:=(Bt.aai (i%64) Y).2;omega
  have hor:=u64_andNot_nat (Bm.wd l (i/64)) (2^(i%64)) (Bm.afk _ _) hp2
  rw[hon]at hor
  have hcnt:=Bm.anQ l i hat
  have hpw:IntKind.u64.wrap (1*2^(i%64))=((2^(i%64):Nat):Int):=by
   rw[Rw,←Bt.Pg];exact wrapN _ hp2
  have hgz:=Bm.U6 l _ hnw
  have hwl:(Bm.ws l).length=Bm.nw l:=Bm.WO l
  rw[hA]at H hH⊢
  refine BO 30 func94 O (uV ?_)
  refine A8 (eH ?_)
  refine s_call O (hH _ H) (Qb O) ?_
  rintro e W1 ⟨rfl,H'⟩
  refine⟨_,rfl,?_⟩
  have H:=H.same H';clear H';unfold II at H
  refine eU ?_
  refine lX ?_
  refine AV (ak9 O O hor) (wZ ?_)
  clear H;refine axS fun _ H=>?_
  refine uj ?_
  refine BI O TN (fV ?_)
  refine mD ?_
  refine BU O (BI O TN (dI ?_))
  clear H;refine axS fun _ H=>?_
  refine AO (AP (iP ?_))
  refine⟨rfl,?_⟩
  have:=afa (v:=false) (L:=[]) hi _ Y _ rfl H
  simpa using this
 |false=>
  rw[hat]at hH
  have hput:Bm.put l x false=l:=by
   by_cases hin:0≤x∧x<l.length
   ·obtain⟨i,rfl⟩:=BR hin.1
    rw[Bm.U9]at hat
    rw[Bm.RU false Y,Bm.set_self Y hat]
   ·exact Bm.V7 false hin
  rw[hput]
  refine BO 30 func94 O (uV ?_)
  refine A8 (eH ?_)
  refine BL H O (hH _ H) (Qb O) fun W1 H=>AV (Ib O) (AO (EF O (mX ?_)))
  exact⟨rfl,H⟩
theorem ahA:Calls prog 121 [pt p].toArray w fun e w'=>e= .returned (.tuple #[])∧Heap w (ids (II p b A c l)) (II p b A c (List.replicate l.length false)) w':=by
 have H:=Heap.start hE
 generalize ids (II p b A c l)=F at*
 have e1:Bm.nw (List.replicate l.length false)=Bm.nw l:=by simp[Bm.nw]
 have e2:=Bm.alj l.length
 have e3:(l.length+63)/64=Bm.nw l:=rfl
 rw[e3]at e2
 unfold II at*
 rw[e1,e2,Bm.adS,Dn]
 by_cases h0:Bm.nw l=0
 ·rw[h0]at H⊢
  have e4:Bm.ws l=[]:=by apply DU;rw[Bm.WO,h0]
  rw[e4]at H
  refine BO 9 func121 O (dL ?_)
  refine BI O O9 (BG H 0 O O O O4 (ali H O O underlying55 ?_))
  intro _ H';try (simp only[Bv,Nat.reduceAdd]at H')
  clear H;have H:=H';clear H'
  refine AO (jw ?_)
  refine BI O TN (dI ?_)
  clear H;refine axS fun _ H=>?_
  refine AZ (fin0 O ?_)
  exact⟨rfl,H⟩
 ·obtain rfl:=hk.row h0
  refine BO 9 func121 O (dL ?_)
  refine BI O O9 (BG H 0 O O O O4 (an3 H 1 O O O (Bm.WO l) h0 underlying55 GH O ?_))
  intro _ H';try (simp only[Bv,Nat.reduceAdd]at H')
  clear H;have H:=H';clear H'
  refine AO (jw ?_)
  refine BI O TN (dI ?_)
  clear H;refine axS fun _ H=>?_
  refine AZ (fin0 O ?_)
  exact⟨rfl,H⟩
end
theorem bNew(n:Nat)(w:World)(hn:n≤131072):Calls prog 52 [.int .i64 n].toArray w fun e w'=>∃q b' A' c',e= .returned (pt q)∧Gn b' A' c' (List.replicate n false)∧Heap w [] (II q b' A' c' (List.replicate n false)) w':=by
 have H:=Heap.nil w
 have hU:=fun w=>ag6 n 64 w Y Y Y Y
 rw[Bm.ate]at hU
 have e1:Bm.nw (List.replicate n false)=(n+63)/64:=by simp[Bm.nw]
 have e2:=Bm.alj n
 generalize hm:(n+63)/64=m at*
 refine BO 11 func52 O (AP (Fb O (AO (AP (AQ O (Hu O O (Xr (c:=(n:Int)) O O zW) (xK ?_)))))))
 refine s_call O (hU _) (apf O) ?_
 rintro e W1 ⟨rfl,rfl⟩
 refine⟨_,rfl,?_⟩
 skip
 refine Jz (Value.int .u64) 0 (m:=m) H O O O Y Y Y underlying55 GH O ?_
 intro b _ H';clear H;have H:=H';clear H'
 refine AQ O (AV (FI (ai4 _ _ _ _) O) (D9 H O O fun p10 _ H=>sQ ?_))
 refine⟨_,b,_,m,rfl,⟨fun _=>rfl,by simpa using hn⟩,?_⟩
 unfold II
 rw[e1,e2,Bm.adS,Dn]
 exact H
end
end
section
section
open Go.RowKit
section
variable{p b:Nat}{A:Option Addr}{c:Nat}{l:List Bool}(hk:Gn b A c l)(w:World)(hE:Dj (II p b A c l) w)
include hE hk
theorem afz(x:Int):Calls prog 269 [pt p,.int .i64 x].toArray w fun e w'=>(∃r ok,e= .returned (.tuple [.int .i64 r,.bool ok].toArray)∧Bm.PY l x.toNat r ok)∧Only [] w w':=by
 have HR:=Heap.start hE
 have H:=Heap.nil w
 have hlen:=hk.len
 unfold II at HR
 obtain⟨a,ha⟩:∃a:Nat,x.toNat=a:=⟨_,rfl⟩
 have hmax:(if x<0 then 0 else x)=(a:Int):=by split<;>omega
 rw[ha]
 by_cases hin:a<l.length
 ·obtain rfl:=hk.row zJ
  have hnw:a/64<Bm.nw l:=by unfold Bm.nw;omega
  have hnl:Bm.nw l≤2048:=by unfold Bm.nw;omega
  have hgz:=Bm.U6 l _ hnw
  have htl:=Bm.aoA (Bm.wd l (a/64)) (a%64) (Bm.afk _ _)
  refine tX ?_
  refine AV (Fz O O Y) (dK ?_)
  refine AP (AQ O (AV (SI O O Y (wI Y)) (AY O (uj ?_))))
  refine BI O O9 (BG (HR.same H.only) 0 O O O O4 (AQ O (AV (H8 (i:=a/64) O O Y Y underlying55 MB) (AV (Td (HR.same H.only) 1 O O hgz Gh) (AQ O (AV (Q8 O O Y) (AV (adZ O Aw underlying179 (wU Y)) ?_)))))))
  refine Hu O O (al0 (s:=a%64) O O Y (by show a%64≤64;omega) (fdiv_pow _ _)) ?_
  refine AQ O (AV (Q8 O O Y) (AV (adZ O Aw underlying179 (wU Y)) ?_))
  refine Hu O O (akS (s:=a%64) O O Y (by show a%64≤64;omega) htl) ?_
  refine AY O (AO (A8 (E8 ?_)))
  refine EO (fun z f W=>∃(i X:Nat),z=Bm.nw l-i∧a/64≤i∧i<Bm.nw l∧X<18446744073709551616∧(∀j,j<64→X.testBit j=(decide (a≤64*i+j)&&Bm.at_ l (64*i+j)))∧(∀j,a≤j→j<64*i→Bm.at_ l j=false)∧f 0=pt p∧f 6= .int .i64 i∧f 7= .int .u64 (X:Int)∧Heap w [] [] W) (Bm.nw l-a/64)
   ⟨a/64,Bm.tl (Bm.wd l (a/64)) (a%64),rfl,BF _,hnw,Bm.avq _ _,fun j hj=>?_,fun j h1 h2=>Y,rfl,by simp only[upd];rfl,rfl,H⟩ ?_
  ·rw[Bm.akD,Bm.Si,decide_eq_true hj]
   have:(a%64≤j)=(a≤64*(a/64)+j):=by apply propext;omega
   simp[this]
  clear H
  rintro z f W ⟨i,X,rfl,hai,hi,hX,hb,hz,f0,f6,f7,H⟩
  obtain⟨f,rfl⟩:=KI f0 f6 f7
  clear f0 f6 f7
  by_cases h0:X=0
  ·subst h0
   have hz2:=Bm.ajN l a i hb hz
   by_cases hi2:i+1<Bm.nw l
   ·have hg2:=Bm.U6 l _ hi2
    refine tZ ?_
    refine AV (Fz O O Y) (dK ?_)
    refine jw ?_
    refine BI O O9 (BG (HR.same H.only) 0 O O O O4 (AQ O (AV (H8 (i:=i+1) O O Y Y underlying55 MB) (AV (Td (HR.same H.only) 1 O O hg2 Gh) (AY O (AZ (CS (Dk ?_))))))))
    refine⟨_,_,?_,rfl,i+1,Bm.wd l (i+1),rfl,Y,hi2,Bm.afk _ _,fun j hj=>?_,hz2,rfl,rfl,rfl,H⟩
    ·omega
    ·rw[Bm.Si,decide_eq_true hj,decide_eq_true Y]
   ·refine tZ ?_
    refine AV (GI O O Y) (oV ?_)
    refine oG ?_
    refine BM (Dx (F8 (Dx (F8 (Dx (dS ?_))))))
    exact⟨⟨0,false,rfl,.inl ⟨rfl,rfl,fun j hj=>by
     rcases J9 j (64*(i+1))with h|h
     ·exact hz2 j hj h
     ·exact Bm.at_out (by unfold Bm.nw at*;omega)⟩⟩,H.only⟩
  ·obtain⟨j,hj,hlow,hnx⟩:=Bm.ajV l a i X hb hX h0 hz
   have hL:=fun w=>ag1 (X:Int) w Y Y
   rw[hlow]at hL
   refine iQ ?_
   refine AV (D5 O O Y) (AO (eG ?_))
   refine AP (AQ O (AV (Ya O O (wI Y)) (AQ O (s_call O (hL _) (at7 O) ?_))))
   rintro e W1 ⟨rfl,rfl⟩
   refine⟨_,rfl,?_⟩
   skip
   refine Hu O O (Dq (c:=((64*i+j:Nat):Int)) O O (by rw[wI Y];omega)) ?_
   refine vG ?_
   exact⟨⟨_,true,rfl,hnx⟩,H.only⟩
 ·refine tX ?_
  refine AV (GI O O Y) (qh ?_)
  exact⟨⟨0,false,rfl,.inl ⟨rfl,rfl,fun j hj=>Bm.at_out Y⟩⟩,H.only⟩
end
end
end
section
section
open Go.RowKit
theorem av1(p:Nat)(w:World):Calls prog 221 [pt p].toArray w fun e w'=>∃q,e= .returned (.func (.func 268) #[] [pt q].toArray)∧Heap w [] [blk q [pt p] 109] w':=by
 have H:=Heap.nil w
 refine BO 4 func221 O (AP (WU H O O O ?_))
 intro p1 _ H';clear H;have H:=H';clear H'
 refine qH ?_
 exact⟨_,rfl,H⟩
def itE(q p b:Nat)(A:Option Addr)(c:Nat)(l:List Bool):List FU:=[blk q [pt p] 109,grp (II p b A c l)]
theorem aoR(q p b:Nat)(A:Option Addr)(c:Nat)(l:List Bool):∀E∈itE q p b A c l,Cel E:=VX (ag9 _ _ _) (VX (aqJ (ak8 _ _ _ _ _)) agH)
theorem aw2{q p b:Nat}{A:Option Addr}{c:Nat}{l:List Bool}(hk:Gn b A c l)(W:World)(hE:Dj (itE q p b A c l) W):
 SeqStopsK Fence.wide 4 prog 268 [pt q].toArray (fun x:Int=> #[.int .i64 x]) (Kp (ids (itE q p b A c l))) (fun xs=>xs=Bm.elems l) (fun pre=>pre<+:Bm.elems l) (Bm.elems l).length W:=by
 intro y Az Jx W1 hB hJ hJx hY hJ0
 refine(callsIn_wide (n:=4)).2 ?_
 have hE1:Dj (itE q p b A c l) W1:=((Heap.start hE).same (Only.of_below hB [])).ents
 clear hE hB
 have hlen:=hk.len
 have H:=Heap.start hE1
 clear hE1
 rw[abx]
 have hN:=fun(W:World) (H:Heap W1 (ids (itE q p b A c l)) (itE q p b A c l) W)=>afz hk W (H.Bl 1 rfl) 0
 refine BO 22 func268 O (AP (BG H 0 O O O Ig (s_call O (hN _ H) (Ze O) ?_)))
 rintro e W1 ⟨⟨r,ok,rfl,hnx⟩,HO⟩
 refine⟨_,rfl,?_⟩
 have H:=H.same HO;replace hJ0:=abide hJ hJ0 HO;clear HO
 refine aF ?_
 refine AO (E8 ?_)
 have hH:=H.ents
 clear H hN
 refine EO (fun z f W=>∃(k:Nat) (r:Int) (ok:Bool),k≤l.length∧z=l.length-k∧Bm.PY l k r ok∧f 0= .func (.yield y) #[] #[]∧f 1=pt q∧f 3= .int .i64 r∧f 4= .bool ok∧Az (Bm.upto l k) W∧Dj (itE q p b A c l) W) l.length ⟨0,r,ok,Jh _,rfl,hnx,rfl,rfl,rfl,rfl,hJ0,hH⟩ ?_
 clear hJ0 hH hnx
 rintro z f W ⟨k,r,ok,hkl,rfl,hnx,f0,f1,f3,f4,hJ0,hE⟩
 obtain⟨f,rfl⟩:=Jj f0 f1 f3 f4
 clear f0 f1 f3 f4
 have H:=Heap.start hE
 cases ok with
 |true=>
  obtain⟨j,rfl,hkj,hjl,hup⟩:=Bm.acI l k _ hnx
  have hpre:=Bm.adU l (j+1)
  have hpl:=hpre.length_le
  rw[hup,Cj,List.length_singleton]at hpl
  refine A8 (AP (BX O (AO (ng ?_))))
  refine A8 (ala Aw (PG O O (Cc (v:= .func _ _ _) O) (PG O O (Gm O) (aeA O O O (hY _ (j:Int) _ hJ0 Y) ?_))))
  rintro e W2 (⟨rfl,hJ1,hk1⟩|⟨rfl,hJ1⟩)
  ·refine⟨_,rfl,?_⟩
   have hE2:=hk1.ents H.ents
   have H:=Heap.start hE2
   have hN:=fun(W:World) (H:Heap W2 (ids (itE q p b A c l)) (itE q p b A c l) W)=>afz hk W (H.Bl 1 rfl) ((j:Int)+1)
   rw[show((j:Int)+1).toNat=j+1 by omega]at hN
   rw[←hup]at hJ1
   refine PG O O (Ea O) (aiT (AX (jY ?_)))
   refine DF (BG H 0 O O O Ig (mZ ?_))
   refine s_call O (hN _ H) (Ze O) ?_
   rintro e W1 ⟨⟨r,ok,rfl,hnx⟩,HO⟩
   refine⟨_,rfl,?_⟩
   have H:=H.same HO;replace hJ1:=abide hJ hJ1 HO;clear HO
   refine aF ?_
   refine AZ (Dk ?_)
   exact⟨_,_,Y,rfl,j+1,r,ok,Y,rfl,hnx,rfl,rfl,rfl,rfl,hJ1,H.ents⟩
  ·refine⟨_,rfl,?_⟩
   refine PG O O (Ib O) (aiT (AX (EF O (BM (F8 (Dx (Dx (F8 (apk O ?_)))))))))
   exact⟨⟨_,rfl⟩,.inr ⟨_,by rw[←hup];exact hpre,hJ1⟩⟩
 |false=>
  have hz:∀j,k≤j→Bm.at_ l j=false:=by
   rcases hnx with⟨_,_,h⟩|⟨h,_⟩
   ·exact h
   ·cases h
  rw[Bm.ajY l k hz]at hJ0
  refine A8 (AP (BX O (AO (DC O (Eo (CY (CY (Fv (fin0 O ?_)))))))))
  exact⟨⟨_,rfl⟩,.inl ⟨_,rfl,hJ0⟩⟩
end
end
section
section
open Go.RowKit
section
variable{p b:Nat}{A:Option Addr}{c:Nat}{l:List Bool}(hk:Gn b A c l)(w:World)(hE:Dj (II p b A c l) w)
include hE hk
theorem avH:Calls prog 160 [pt p].toArray w fun e w'=>∃B d,e= .returned (.slice B (Bm.elems l).length d)∧Heap w [] [Ec 1 (.slice B (Bm.elems l).length d) (Bm.elems l).length ((Bm.elems l).map (Value.int .i64)) 3] w':=by
 have H:=Heap.nil w
 have hlen:=hk.len
 have hel:=Bm.acV l
 refine amE (N:=13) func160 O O O (AP (EM O (AO (AP (akk H O S9 O ?_)))))
 intro p3 _ H';clear H;have H:=H';clear H'
 refine AO (A8 (AP (Bg O (s_call O (av1 p _) (atm O) ?_))))
 rintro e W1 ⟨q,rfl,H'⟩
 refine⟨_,rfl,?_⟩
 have H:=H.more H';clear H'
 refine AO (E8 ?_)
 replace H:=H.Kr 1 3
 have hO:=H.only
 have H2:=VL (IJ hE).ents H
 replace H2:Heap w _ ([blk p3 [.slice none 0 0] 22,Ec 1 (.slice none 0 0) 0 (([]:List Int).map (Value.int .i64)) 3]++itE q p b A c l) _:=H2.order [2,0,1,3] rfl rfl
 have HK:Dj (itE q p b A c l) _:=(H2.order [2,3,0,1] rfl rfl:Heap w _ (itE q p b A c l++_) _).part
 refine av4 (N:=(Bm.elems l).length) [blk p3 [.slice none 0 0] 22,Ec 1 (.slice none 0 0) 0 (([]:List Int).map (Value.int .i64)) 3] (itE q p b A c l) H2 (aoR _ _ _ _ _ _) O func268 Aw Aw
  (aw2 hk _ HK) (fun _=>rfl) Aw
  (fun pre L=>∃B d,L=[blk p3 [.slice B pre.length d] 22,Ec 1 (.slice B pre.length d) pre.length (pre.map (Value.int .i64)) 3])
  (fun q pre L=>False)
  (by rintro pre L ⟨_,_,rfl⟩;exact VX (ag9 _ _ _) (VX (arE _ _ _ _ _) agH)) (by rintro q pre L ⟨⟩) ⟨none,0,rfl⟩ (fun x=> [(7,.int .i64 x)]) (fun x=> [(4,.int .i64 x)]) (fun _=>by simp) ?assign ?body ?done ?stop
 case assign=>
  intro x W
  refine DF (AY O (AZ ?_))
  exact ad9 rfl
 case body=>
  rintro pre x L W ⟨B,d,rfl⟩ hlen HO H
  clear HO H2
  refine E8 (DF (BG H 0 O O O KQ (qX ?_)))
  clear H;intro _ An cn _ H;simp only[Bv,Nat.reduceAdd]at H
  refine nH ?_
  clear H;refine axS fun _ H=>?_
  refine AZ (CS (ama ?_))
  refine⟨_,⟨An,cn,rfl⟩,?_⟩
  rw[Cj];exact H
 case done=>
  rintro D xs L W rfl ⟨B,d,rfl⟩ H hK
  clear H2
  replace H:Heap w [] _ W:=Heap.calm (L:=[dfd D,blk p3 [.slice B (Bm.elems l).length d] 22,Ec 1 (.slice B (Bm.elems l).length d) (Bm.elems l).length ((Bm.elems l).map (Value.int .i64)) 3]) (M:=itE q p b A c l) H hO hK (fun i hi=>by
   have:i∈ids (itE q p b A c l):=by unfold itE;rw[Ep];exact Du _ hi
   exact .inr ⟨this,this⟩)
  refine CS (AX (AP (BG H 1 O O O KQ (EM O (AO (BM (alY (alK H 0 O ?_))))))))
  intro _ H';simp only[FH,FD]at H';clear H;have H:=H';clear H'
  refine fm1 O (Jt (v:= .slice _ _ _) O) ?_
  refine⟨_,_,rfl,H.drop⟩
 case stop=>
  rintro D q pre L W hS ⟨⟩ H hK
end
section
variable{p b:Nat}{A:Option Addr}{c:Nat}{l:List Bool}(hk:Gn b A c l){pB bB:Nat}{AB:Option Addr}{cB:Nat}{lB:List Bool}(hkB:Gn bB AB cB lB)(w:World)(hE:Dj [grp (II p b A c l),grp (II pB bB AB cB lB)] w)
include hE hk hkB
end
end
end
section
namespace Tr
structure S where
 seen:List Int
 op:List Int
 bad:List ((Int×Int)×Int)
def s0:S:=⟨[],[],[]⟩
def reach(P:Int→Bool)(s:S)(e:Int×Int)(a:Int):S:=
 if a=0∨a∈s.seen then s else if P a=true then⟨s.seen++ [a],s.op++ [a],s.bad⟩else⟨s.seen,s.op,JX s.bad e a⟩
def code(P:Int→Bool)(s:S)(a:Int):Int:=if a=0∨a∈s.seen then 0 else if P a=true then 0 else 22
def along(P:Int→Bool)(s:S)(y:Int)(l:List Int):Nat→S
 |0=>s
 |i+1=>reach P (along P s y l i) (y,(i:Int)) (l.getD i 0)
def top(s:S):Int:=s.op.getD (s.op.length-1) 0
def pop(s:S):S:=⟨s.seen,s.op.take (s.op.length-1),s.bad⟩
def step(P:Int→Bool)(pt:Int→List Int)(s:S):S:=along P (pop s) (top s) (pt (top s)) (pt (top s)).length
def steps(P:Int→Bool)(pt:Int→List Int)(s:S):Nat→S
 |0=>s
 |k+1=>step P pt (steps P pt s k)
def Gp(P:Int→Bool)(s:S)(l:List Int):Nat→S
 |0=>s
 |i+1=>reach P (Gp P s l i) (-1,0) (l.getD i 0)
structure Ok (P:Int→Bool) (s:S):Prop where
 nd:s.seen.Nodup
 pl:∀x∈s.seen,P x=true
 sub:∀x∈s.op,x∈s.seen
 ahK:s.op.Nodup
 bnd:(s.bad.map Prod.fst).Nodup
theorem ok0(P:Int→Bool):Ok P s0:=⟨by simp[s0],by simp[s0],by simp[s0],by simp[s0],by simp[s0]⟩
theorem aiP{α β:Type}[DecidableEq α]:∀(l:List (α×β)) (a:α) (v:β),(l.map Prod.fst).Nodup→((JX l a v).map Prod.fst).Nodup∧∀z,z∈(JX l a v).map Prod.fst↔z=a∨z∈l.map Prod.fst
 | [],a,v,_=>by simp[JX]
 |p::l,a,v,h=>by
  simp only[DJ,HY]at h
  obtain⟨h1,h2⟩:=aiP l a v h.2
  unfold JX
  split
  ·rename_i e
   subst e
   refine⟨by simpa using h,fun z=>?_⟩
   simp
  ·rename_i e
   simp only[DJ,HY,Dh]
   refine⟨⟨fun hm=>?_,h1⟩,fun z=>?_⟩
   ·rcases(h2 _).1 hm with h3|h3
    ·exact e h3
    ·exact h.1 h3
   ·rw[h2 z]
    constructor
    ·rintro(h3|h3|h3)
     ·exact .inr (.inl h3)
     ·exact .inl h3
     ·exact .inr (.inr h3)
    ·rintro(h3|h3|h3)
     ·exact .inr (.inl h3)
     ·exact .inl h3
     ·exact .inr (.inr h3)
theorem abG{α β:Type}[DecidableEq α]:∀(l:List (α×β)) (a:α) (v:β),(JX l a v).length≤l.length+1∧0<(JX l a v).length
 | [],a,v=>by simp[JX]
 |p::l,a,v=>by
  have:=abG l a v
  unfold JX
  split
  ·simp
  ·simp;omega
theorem Ok.reach{P:Int→Bool}{s:S}(h:Ok P s)(e:Int×Int)(a:Int):Ok P (reach P s e a):=by
 unfold Tr.reach
 split
 ·exact h
 ·rename_i ha
  have ha2:a∉s.seen:=fun hm=>ha (.inr hm)
  split
  ·rename_i hp
   refine⟨?_,fun x hx=>?_,fun x hx=>?_,?_,h.bnd⟩
   ·rw[C9];exact⟨h.nd,J,fun x hx y hy e=>ha2 (by rw[Bz.1 hy]at e;rw[←e];exact hx)⟩
   ·rcases Ci.1 hx with h1|h1
    ·exact h.pl x h1
    ·rw[Bz.1 h1];exact hp
   ·rcases Ci.1 hx with h1|h1
    ·exact CO _ (h.sub x h1)
    ·exact Du _ h1
   ·show(s.op++ [a]).Nodup
    rw[C9];exact⟨h.ahK,J,fun x hx y hy e=>ha2 (by rw[Bz.1 hy]at e;rw[←e];exact h.sub x hx)⟩
  ·exact⟨h.nd,h.pl,h.sub,h.ahK,(aiP s.bad e a h.bnd).1⟩
theorem Ok.along{P:Int→Bool}{s:S}(h:Ok P s)(y:Int)(l:List Int):∀k,Ok P (along P s y l k)
 |0=>h
 |k+1=>(Ok.along h y l k).reach _ _
theorem Ok.pop{P:Int→Bool}{s:S}(h:Ok P s):Ok P (pop s):=
 ⟨h.nd,h.pl,fun x hx=>h.sub x (Jb hx),h.ahK.sublist (List.take_sublist _ _),h.bnd⟩
theorem Ok.step{P:Int→Bool}{pt:Int→List Int}{s:S}(h:Ok P s):Ok P (step P pt s):=h.pop.along _ _ _
theorem Ok.steps{P:Int→Bool}{pt:Int→List Int}{s:S}(h:Ok P s):∀k,Ok P (steps P pt s k)
 |0=>h
 |k+1=>(Ok.steps h k).step
theorem Ok.Gp{P:Int→Bool}{s:S}(h:Ok P s)(l:List Int):∀k,Ok P (Gp P s l k)
 |0=>h
 |k+1=>(Ok.Gp h l k).reach _ _
theorem acM(P:Int→Bool)(s:S)(e:Int×Int)(a:Int)(k:Nat)(h:s.seen.length=s.op.length+k):(reach P s e a).seen.length=(reach P s e a).op.length+k:=by
 unfold reach;split
 ·exact h
 ·split
  ·simp;omega
  ·exact h
theorem ac'(P:Int→Bool)(s:S)(y:Int)(l:List Int)(k:Nat)(h:s.seen.length=s.op.length+k):∀i,(along P s y l i).seen.length=(along P s y l i).op.length+k
 |0=>h
 |i+1=>acM _ _ _ _ _ (ac' P s y l k h i)
theorem akv(P:Int→Bool)(pt:Int→List Int)(s:S)(k:Nat)(h:s.seen.length=s.op.length+k)(h0:s.op≠[]):(step P pt s).seen.length=(step P pt s).op.length+(k+1):=by
 refine ac' P _ _ _ (k+1) ?_ _
 have:=Hg.2 h0
 show s.seen.length=(s.op.take (s.op.length-1)).length+(k+1)
 rw[Ed];omega
theorem Zh(P:Int→Bool)(l:List Int):∀k,(Gp P s0 l k).seen.length=(Gp P s0 l k).op.length+0
 |0=>rfl
 |k+1=>acM _ _ _ _ _ (Zh P l k)
theorem Y7(P:Int→Bool)(s:S)(e:Int×Int)(a:Int):∀x∈s.seen,x∈(reach P s e a).seen:=fun x hx=>by
 unfold reach;split
 ·exact hx
 ·split
  ·exact CO _ hx
  ·exact hx
theorem adp(P:Int→Bool)(s:S)(y:Int)(l:List Int):∀i,∀x∈s.seen,x∈(along P s y l i).seen
 |0,x,hx=>hx
 |i+1,x,hx=>Y7 _ _ _ _ x (adp P s y l i x hx)
theorem aft(P:Int→Bool)(pt:Int→List Int)(s:S):∀x∈s.seen,x∈(step P pt s).seen:=fun x hx=>adp P (pop s) _ _ _ x hx
theorem acs(P:Int→Bool)(pt:Int→List Int)(s:S)(k:Nat):∀j,∀x∈(steps P pt s k).seen,x∈(steps P pt s (k+j)).seen
 |0,x,hx=>hx
 |j+1,x,hx=>aft _ _ _ x (acs P pt s k j x hx)
theorem acu(P:Int→Bool)(pt:Int→List Int)(s:S)(h:s.seen.length=s.op.length+0):∀k,(∀j,j<k→(steps P pt s j).op≠[])→(steps P pt s k).seen.length=(steps P pt s k).op.length+k
 |0,_=>h
 |k+1,ho=>akv P pt _ k (acu P pt s h k fun j hj=>ho j Y) (ho k Y)
theorem YE(P:Int→Bool)(s:S)(e:Int×Int)(a:Int):(reach P s e a).bad.length≤s.bad.length+1∧((reach P s e a).bad=[]→s.bad=[]∧(a=0∨a∈(reach P s e a).seen))∧(code P s a=0→a=0∨a∈(reach P s e a).seen):=by
 have hl:=abG s.bad e a
 unfold reach code;split
 ·rename_i h
  exact⟨Y,fun h2=>⟨h2,h⟩,fun _=>h⟩
 ·split
  ·exact⟨Nat.le_succ _,fun h2=>⟨h2,.inr J⟩,fun _=> .inr J⟩
  ·exact⟨hl.1,fun h2=>by have:JX s.bad e a=[]:=h2;rw[this]at hl;simp at hl,fun h=>by cases h⟩
theorem PU:∀(N:Nat) (l:List Int),l.Nodup→(∀x∈l,0≤x∧x<(N:Int))→l.length≤N
 |0,[],_,_=>BF _
 |0,x::l,_,h=>by have:=h x J;omega
 |N+1,l,hn,h=>by
  by_cases hm:(N:Int)∈l
  ·have h1:=PU N (l.erase (N:Int)) (hn.erase _) (fun x hx=>by
    have h2:=h x (aeV hx)
    have h3:x≠(N:Int):=fun e=>by subst e;exact(ab7 hn) hx
    omega)
   rw[Sj hm]at h1
   omega
  ·have h1:=PU N l hn (fun x hx=>by
    have h2:=h x hx
    have h3:x≠(N:Int):=fun e=>hm (by rw[←e];exact hx)
    omega)
   omega
end Tr
end
section
namespace Tr
theorem aa6(P:Int→Bool)(s:S)(e:Int×Int)(a:Int)(h:(reach P s e a).bad=[]):s.bad=[]:=((YE P s e a).2.1 h).1
theorem WM(P:Int→Bool)(s:S)(y:Int)(l:List Int):∀i,(along P s y l i).bad=[]→s.bad=[]
 |0,h=>h
 |i+1,h=>WM P s y l i (aa6 _ _ _ _ h)
theorem aaN(P:Int→Bool)(pt:Int→List Int)(s:S):∀k,(steps P pt s k).bad=[]→s.bad=[]
 |0,h=>h
 |k+1,h=>aaN P pt s k (WM P (pop (steps P pt s k)) _ _ _ h)
theorem alc(P:Int→Bool)(s:S)(e:Int×Int)(a:Int)(h:(reach P s e a).bad=[]):code P s a=0:=by
 unfold reach at h;unfold code
 split
 ·rfl
 ·rename_i h1
  rw[if_neg h1]at h
  split
  ·rfl
  ·rename_i h2
   rw[if_neg h2]at h
   have h3:JX s.bad e a=[]:=h
   have:=(abG s.bad e a).2
   rw[h3]at this;simp at this
end Tr
end
section
namespace Tr
theorem getD_mem{l:List Int}{j:Nat}(h:j<l.length):l.getD j 0∈l:=by
 rw[BN,Ba h];exact KH _
theorem ace(P:Int→Bool)(s:S)(l:List Int):∀k,(Gp P s l k).bad=[]→∀j,j<k→l.getD j 0=0∨l.getD j 0∈(Gp P s l k).seen
 |0,_,j,h=>by omega
 |k+1,hb,j,h=>by
  obtain⟨h1,h2⟩:=(YE P (Gp P s l k) (-1,0) (l.getD k 0)).2.1 hb
  by_cases e:j=k
  ·subst e;exact h2
  ·exact(ace P s l k h1 j Y).imp id (fun hm=>Y7 _ _ _ _ _ hm)
theorem acN(P:Int→Bool)(s:S)(y:Int)(l:List Int):∀k,(along P s y l k).bad=[]→∀j,j<k→l.getD j 0=0∨l.getD j 0∈(along P s y l k).seen
 |0,_,j,h=>by omega
 |k+1,hb,j,h=>by
  obtain⟨h1,h2⟩:=(YE P (along P s y l k) (y,(k:Int)) (l.getD k 0)).2.1 hb
  by_cases e:j=k
  ·subst e;exact h2
  ·exact(acN P s y l k h1 j Y).imp id (fun hm=>Y7 _ _ _ _ _ hm)
theorem acR{P:Int→Bool}{s:S}{e:Int×Int}{a y:Int}(h:y∈(reach P s e a).seen)(ho:y∉(reach P s e a).op):y∈s.seen∧y∉s.op:=by
 unfold reach at h ho
 split at h
 ·rename_i h1;rw[if_pos h1]at ho;exact⟨h,ho⟩
 ·rename_i h1
  rw[if_neg h1]at ho
  split at h
  ·rename_i h2
   rw[if_pos h2]at ho
   have ho2:y∉s.op++ [a]:=ho
   have h3:y∈s.seen++ [a]:=h
   simp only[Ci,Bz,not_or]at ho2 h3
   exact⟨h3.resolve_right ho2.2,ho2.1⟩
  ·rename_i h2
   rw[if_neg h2]at ho
   exact⟨h,ho⟩
theorem acf{P:Int→Bool}{s:S}{y0:Int}{l:List Int}{y:Int}:∀k,y∈(along P s y0 l k).seen→y∉(along P s y0 l k).op→y∈s.seen∧y∉s.op
 |0,h,ho=>⟨h,ho⟩
 |k+1,h,ho=>by
  obtain⟨h1,h2⟩:=acR h ho
  exact acf k h1 h2
theorem YA{s:S}(h:s.op≠[]):s.op=(pop s).op++ [top s]:=by
 have hl:=Hg.2 h
 unfold pop top
 obtain⟨x,hx⟩:∃x,s.op[s.op.length-1]? =some x:=⟨_,Ba Y⟩
 rw[BN,hx]
 have:=JV (s.op.length-1) s.op
 rw[J4 Y]at this
 rw[Ba Y]at hx
 injection hx with hx
 rw[show s.op.length-1+1=s.op.length by omega,O7,hx]at this
 exact this.symm
theorem Ye(P:Int→Bool)(pt:Int→List Int)(s:S)(hs:∀y∈s.seen,y∈s.op):∀k,(∀j,j<k→(steps P pt s j).op≠[])→(steps P pt s k).bad=[]→∀y∈(steps P pt s k).seen,y∉(steps P pt s k).op→∀x∈pt y,x=0∨x∈(steps P pt s k).seen
 |0,_,_,y,h,ho=>absurd (hs y h) ho
 |k+1,hj,hb,y,h,ho=>by
  intro x hx
  have hb2:(steps P pt s k).bad=[]:=WM P (pop (steps P pt s k)) _ _ _ hb
  obtain⟨h1,h2⟩:=acf (s:=pop (steps P pt s k)) _ h ho
  by_cases e:y∈(steps P pt s k).op
  ·rw[YA (hj k Y)]at e
   rcases Ci.1 e with e|e
   ·exact absurd e h2
   ·have e2:y=top (steps P pt s k):=Bz.1 e
    subst e2
    obtain⟨j,hjl,rfl⟩:=Gg.1 hx
    have:=acN P (pop (steps P pt s k)) (top (steps P pt s k)) (pt (top (steps P pt s k))) _ hb j hjl
    rw[BN,Ba hjl]at this
    exact this
  ·rcases Ye P pt s hs k (fun j h=>hj j Y) hb2 y h1 e x hx with h3|h3
   ·exact .inl h3
   ·exact .inr (aft P pt _ x h3)
theorem abI(P:Int→Bool)(l:List Int):∀k,∀y∈(Gp P s0 l k).seen,y∈(Gp P s0 l k).op
 |0,y,h=>by cases h
 |k+1,y,h=>by
  have ih:=abI P l k
  by_cases ho:y∈(Gp P s0 l (k+1)).op
  ·exact ho
  ·obtain⟨h1,h2⟩:=acR h ho
   exact absurd (ih y h1) h2
structure Two (L A:List Int) (i k:Nat):Prop where
 a:∀(j:Nat) (y:Int),j<k→A[j]? =some y→∃q:Nat,q<i∧L[q]? =some y
 b:∀(q:Nat) (y:Int),q<i→L[q]? =some y→y=0∨∃j:Nat,j<k∧A[j]? =some y
theorem Two.zero{L A:List Int}:Two L A 0 0:=⟨fun j y h=>Y,fun q y h=>Y⟩
theorem Two.skip{L A:List Int}{i k:Nat}{x:Int}(h:Two L A i k)(hx:L[i]? =some x)(h0:x=0∨∃j:Nat,j<k∧A[j]? =some x):Two L A (i+1) k:=
 ⟨fun j y h1 h2=>(h.a j y h1 h2).imp fun q hq=>⟨Y,hq.2⟩,fun q y h1 h2=>by
  by_cases e:q=i
  ·subst e;rw[hx]at h2;injection h2 with h2;subst h2;exact h0
  ·exact h.b q y Y h2⟩
theorem Two.next{L A:List Int}{i k:Nat}{x:Int}(h:Two L A i k)(hx:L[i]? =some x)(hk:A[k]? =some x):Two L A (i+1) (k+1):=
 ⟨fun j y h1 h2=>by
  by_cases e:j=k
  ·subst e;rw[hk]at h2;injection h2 with h2;subst h2;exact⟨i,Y,hx⟩
  ·obtain⟨q,hq,h3⟩:=h.a j y Y h2;exact⟨q,Y,h3⟩,fun q y h1 h2=>by
  by_cases e:q=i
  ·subst e;rw[hx]at h2;injection h2 with h2;subst h2;exact .inr ⟨k,Y,hk⟩
  ·rcases h.b q y Y h2 with h3|⟨j,h3,h4⟩
   ·exact .inl h3
   ·exact .inr ⟨j,Y,h4⟩⟩
theorem apP{L:List Int}(hL:L.Pairwise (· ≤ ·)){i j:Nat}{x y:Int}(hx:L[i]? =some x)(hy:L[j]? =some y)(hij:i≤j):x≤y:=by
 by_cases e:i=j
 ·subst e;rw[hx]at hy;injection hy with hy;omega
 ·obtain⟨h1,rfl⟩:=BK.1 hx
  obtain⟨h2,rfl⟩:=BK.1 hy
  exact Hf.1 hL i j h1 h2 Y
theorem aiy{A:List Int}(hA:A.Pairwise (· < ·)){i j:Nat}{x y:Int}(hx:A[i]? =some x)(hy:A[j]? =some y)(hij:i<j):x<y:=by
 obtain⟨h1,rfl⟩:=BK.1 hx
 obtain⟨h2,rfl⟩:=BK.1 hy
 exact Hf.1 hA i j h1 h2 hij
theorem Two.take{L A:List Int}{i k:Nat}{x:Int}(h:Two L A i k)(hL:L.Pairwise (· ≤ ·))(hA:A.Pairwise (· < ·))(hLA:∀y∈L,y=0∨y∈A)(hAL:∀y∈A,y∈L∧y≠0)(hx:L[i]? =some x)(h0:x≠0)(hp:∀z,0<k→A[k-1]? =some z→z≠x)(hkl:k≤A.length):A[k]? =some x:=by
 have hxA:x∈A:=(hLA x (BP hx)).resolve_left h0
 obtain⟨r,hr1,hr2⟩:=Gg.1 hxA
 have hr:A[r]? =some x:=by rw[←hr2];exact Ba hr1
 have hkr:k≤r:=by
  rcases J9 r k with hlt|hge
  ·exfalso
   by_cases e:r=k-1
   ·subst e;exact hp x Y hr rfl
   ·by_cases hkA:k-1<A.length
    ·obtain⟨z,hz⟩:∃z,A[k-1]? =some z:=⟨_,Ba hkA⟩
     obtain⟨q,hq,hq2⟩:=h.a (k-1) z Y hz
     have h1:=apP hL hq2 hx Y
     have h2:=aiy hA hr hz Y
     omega
    ·omega
  ·exact hge
 rcases J9 k r with hlt|hge
 ·exfalso
  obtain⟨z,hz⟩:∃z,A[k]? =some z:=⟨_,Ba Y⟩
  have hzx:=aiy hA hz hr hlt
  obtain⟨hzL,hz0⟩:=hAL z (BP hz)
  obtain⟨q,hq1,hq2⟩:=Gg.1 hzL
  have hq:L[q]? =some z:=by rw[←hq2];exact Ba hq1
  have hqi:q<i:=by
   rcases J9 q i with h1|h1
   ·exact h1
   ·have:=apP hL hx hq h1;omega
  rcases h.b q z hqi hq with h1|⟨j,hj,hj2⟩
  ·exact hz0 h1
  ·have:=aiy hA hj2 hz hj;omega
 ·have:r=k:=Y
  subst this;exact hr
theorem Two.fin{L A:List Int}{k:Nat}(h:Two L A L.length k)(hA:A.Pairwise (· < ·))(hAL:∀y∈A,y∈L∧y≠0)(hk:k≤A.length):k=A.length:=by
 rcases J9 k A.length with hlt|hge
 ·exfalso
  obtain⟨z,hz⟩:∃z,A[k]? =some z:=⟨_,Ba hlt⟩
  obtain⟨hzL,hz0⟩:=hAL z (BP hz)
  obtain⟨q,hq1,hq2⟩:=Gg.1 hzL
  have hq:L[q]? =some z:=by rw[←hq2];exact Ba hq1
  rcases h.b q z hq1 hq with h1|⟨j,hj,hj2⟩
  ·exact hz0 h1
  ·have:=aiy hA hj2 hz hj;omega
 ·omega
end Tr
end
section
section
open Go.RowKit
theorem aox{F:Nat→EP}{b k m:Nat}{r:EP}(hm:m<4):ZG (JJ F (k*5+1+m) r) b=ZG F b:=by
 unfold ZG
 refine Vz fun i hi=>?_
 split
 ·rfl
 ·rw[Lp (i:=k*5+1+m) _ _ Y]
section
variable{p b N:Nat}{F:Nat→EP}{l:Vf}{w:World}
end
end
end
section
section
open Go.RowKit
abbrev acP(p6 p7:Nat):Value:= .func (.func 286) #[] [Q7 p6,Q7 p7].toArray
def P9(p6 p7:Nat)(f t:Int):List FU:=[blk p6 [.int .i64 f] 3,blk p7 [.int .i64 t] 3]
theorem aqp(p6 p7:Nat)(fr to x:Int)(w:World)(hE:Dj (P9 p6 p7 fr to) w):
 Calls prog 286 [.int .i64 x,Q7 p6,Q7 p7].toArray w fun e w'=>e= .returned (.bool (gone fr to x))∧Only [] w w':=by
 have HR:=Heap.start hE
 have H:=Heap.nil w
 unfold P9 at HR
 unfold gone
 by_cases h1:fr≤x
 ·by_cases h2:x<to
  ·rw[decide_eq_true ⟨h1,h2⟩]
   refine ug ?_
   refine Bo 8 O (DI O O Y) (uh ?_)
   exact⟨rfl,H.only⟩
  ·rw[decide_eq_false (fun h=>h2 h.2)]
   refine ug ?_
   refine Bo 8 O (Di O O Y) (uh ?_)
   exact⟨rfl,H.only⟩
 ·rw[decide_eq_false (fun h=>h1 h.1)]
  refine BO 13 func286 O (rF ?_)
  refine jl ?_
  refine AV (Fz O O Y) (BX O (Df 8 O O (Df 8 O O (Df 8 O O (DW O O (iP ?_))))))
  exact⟨rfl,H.only⟩
theorem ae'{f t:Int}{l:List Int}(h:∀x∈l,gone f t x=false):stay f t l=l:=by
 unfold stay
 exact NG.2 fun x hx=>by rw[h x hx];rfl
theorem adi(f t:Int)(l:List Int)(j:Nat)(x:Int)(hx:l[j]? =some x):stay f t (l.take (j+1))=stay f t (l.take j)++(if gone f t x=true then []else [x]):=by
 unfold stay
 rw[←KT hx,List.filter_append]
 congr 1
 cases h:gone f t x<;>simp[h]
theorem anH(A:Option Addr)(n c p6 p7:Nat)(fr to:Int)(xs:List Int)(w:World)(hE:Dj (P9 p6 p7 fr to) w)(hS:I5 (Value.int .i64) w [] A xs)(hl:xs.length=n)(hn:n≤1000000):
 Calls prog 302 [.slice A n c,acP p6 p7].toArray w fun e w'=>(∃r,e= .returned (.int .i64 r)∧((∀x∈xs,gone fr to x=false)∧r= -1∨∃i:Nat,i<n∧r=i∧(∃x,xs[i]? =some x∧gone fr to x=true)∧∀x∈xs.take i,gone fr to x=false))∧Only [] w w':=by
 have HR:=Heap.start hE
 have H:=Heap.nil w
 have hG:=fun{W:World} (h:Only [] w W) x=>aqp p6 p7 fr to x W (HR.same h).ents
 refine BO 19 func302 O (oM ?_)
 refine sS ?_
 refine xH ?_
 refine EO (fun z f W=>∃(i:Nat),i≤n∧z=n-i∧(∀x∈xs.take i,gone fr to x=false)∧f 0= .slice A n c∧f 1=acP p6 p7∧f 7= .int .i64 n∧f 8= .int .i64 i∧Heap w [] [] W) n ⟨0,Y,rfl,J,rfl,rfl,rfl,rfl,H⟩ ?_
 clear H
 rintro z f W ⟨i,hi,rfl,hno,f0,f1,f7,f8,H⟩
 obtain⟨f,rfl⟩:=Jj f0 f1 f7 f8
 clear f0 f1 f7 f8
 by_cases hlt:i<n
 ·obtain⟨y,hy⟩:∃y,xs[i]? =some y:=⟨_,Ba Y⟩
  obtain⟨b,o,rfl,_,hrd⟩:=hS Y
  have hc:=hrd i y hy
  have hGy:=fun{W:World} h=>hG (W:=W) h y
  cases hg:gone fr to y with
  |true=>
   simp only[hg]at hGy
   refine xI ?_
   rintro e W1 ⟨rfl,H'⟩
   refine⟨_,rfl,?_⟩
   have H:=H.same H';clear H'
   refine oV ?_
   refine AQ O (AY O (AO (kL ?_)))
   refine aK ?_
   exact⟨⟨_,rfl,.inr ⟨i,hlt,rfl,⟨y,hy,hg⟩,hno⟩⟩,H.only⟩
  |false=>
   simp only[hg]at hGy
   refine xI ?_
   rintro e W1 ⟨rfl,H'⟩
   refine⟨_,rfl,?_⟩
   have H:=H.same H';clear H'
   refine AO (o8 ?_)
   refine⟨_,_,?_,rfl,i+1,Y,rfl,fun x hx=>?_,rfl,rfl,rfl,rfl,H⟩
   ·omega
   ·rw[←KT hy]at hx
    rcases Ci.1 hx with hx|hx
    ·exact hno x hx
    ·rw[Bz.1 hx];exact hg
 ·obtain rfl:i=n:=Y
  rw[show xs.take i=xs by rw[←hl];exact F9]at hno
  refine oh ?_
  refine eu ?_
  exact⟨⟨_,rfl,.inl ⟨hno,rfl⟩⟩,H.only⟩
theorem ah1(A:Option Addr)(n c p6 p7:Nat)(fr to:Int)(xs:List Int)(w:World)(hE:Dj (Ec 1 (.slice A n c) n (xs.map (Value.int .i64)) 3::P9 p6 p7 fr to) w)(hn:n≤1000000):
 Calls prog 287 [.slice A n c,acP p6 p7].toArray w fun e w'=>e= .returned (.slice A (stay fr to xs).length c)∧Heap w (ids (Ec 1 (.slice A n c) n (xs.map (Value.int .i64)) 3::P9 p6 p7 fr to)) (Ec 1 (.slice A (stay fr to xs).length c) (stay fr to xs).length ((stay fr to xs).map (Value.int .i64)) 3::P9 p6 p7 fr to) w':=by
 have H:=Heap.start hE
 have hl:xs.length=n:=by have:=(H.JE 0 rfl).1;simpa using this
 have hcap:=Pq H 0 rfl
 obtain⟨I,hI⟩:∃I,ids (Ec 1 (.slice A n c) n (xs.map (Value.int .i64)) 3::P9 p6 p7 fr to)=I:=⟨_,rfl⟩
 rw[hI]at H⊢
 have hG:=fun{W:World} hE x=>aqp p6 p7 fr to x W hE
 have hIx:=fun{W:World} hE hS=>anH A n c p6 p7 fr to xs W hE hS hl hn
 refine BO 42 func287 O (AP (EM O (AO (AP (Dz O (AV (Cc (v:= .func _ _ _) O) (s_call O (hIx ((H.drop).ents) (FB H 0 O)) (atp O) ?_)))))))
 rintro e W1 ⟨⟨r,rfl,hr⟩,H'⟩
 refine⟨_,rfl,?_⟩
 have H:=H.same H';clear H'
 refine AY O (AO (A8 (A8 ?_)))
 rcases hr with⟨hall,rfl⟩|⟨i,hin,rfl,⟨y,hy,hgy⟩,hno⟩
 ·have e1:=ae' hall
  have e2:(stay fr to xs).length=n:=by rw[e1,hl]
  refine DF (AQ O (AV (D7 O O Y) (oV ?_)))
  refine Dz O (EM O (AO (BM (Dx (CG (v:= .slice _ _ _) O O ?_)))))
  refine⟨by rw[e2],?_⟩
  rw[e2,e1];exact H
 ·obtain⟨q,rfl⟩:=Heap.JO H 0 rfl Y
  unfold P9 at H
  have hst1:stay fr to (xs.take (i+1))=xs.take i:=by rw[adi fr to xs i y hy,hgy,if_pos rfl,Dl,ae' hno]
  refine DF (AQ O (kC ?_))
  refine iQ ?_
  refine dw ?_
  refine AY O (AO (E8 ?_))
  refine EO (fun z f W=>∃(j wi:Nat) (ys:List Int),i<j∧j≤n∧z=n-j∧ys.length=n∧wi=(stay fr to (xs.take j)).length∧wi<j∧ys.take wi=stay fr to (xs.take j)∧(∀q,j≤q→ys[q]? =xs[q]?)∧f 0= .slice (some ⟨q,0,none⟩) n c∧f 1=acP p6 p7∧f 5= .int .i64 wi∧f 6= .int .i64 j∧Heap w I [Ec 1 (.slice (some ⟨q,0,none⟩) n c) n (ys.map (Value.int .i64)) 3,blk p6 [.int .i64 fr] 3,blk p7 [.int .i64 to] 3] W) (n-(i+1)) ⟨i+1,i,xs,Y,Y,rfl,hl,by rw[hst1,Ed];omega,Y,hst1.symm,fun _ _=>rfl,rfl,rfl,rfl,rfl,H⟩ ?_
  clear H
  rintro z f W ⟨j,wi,ys,hij,hjn,rfl,hyl,hwi,hwj,hyt,hyr,f0,f1,f5,f6,H⟩
  obtain⟨f,rfl⟩:=Jj f0 f1 f5 f6
  clear f0 f1 f5 f6
  by_cases hlt:j<n
  ·obtain⟨v,hv⟩:∃v,xs[j]? =some v:=⟨_,Ba Y⟩
   have hv2:ys[j]? =some v:=by rw[hyr j (BF _)];exact hv
   have hst:=adi fr to xs j v hv
   have hGy:=fun{W:World} hE=>hG (W:=W) hE v
   cases hg:gone fr to v with
   |true=>
    rw[hg,if_pos rfl,Dl]at hst
    simp only[hg]at hGy
    refine qg ?_
    rintro e W1 ⟨rfl,H'⟩
    refine⟨_,rfl,?_⟩
    have H:=H.same H';clear H'
    refine AV (Ea O) (xJ ?_)
    refine⟨_,_,?_,rfl,j+1,wi,ys,Y,Y,rfl,hyl,by rw[hst];exact hwi,Y,by rw[hst];exact hyt,fun q hq=>hyr q Y,rfl,rfl,rfl,rfl,H⟩
    omega
   |false=>
    rw[hg,if_neg J]at hst
    simp only[hg]at hGy
    refine qg ?_
    rintro e W1 ⟨rfl,H'⟩
    refine⟨_,rfl,?_⟩
    have H:=H.same H';clear H'
    refine AV (Ib O) (oV ?_)
    refine Dz O (AQ O (AQ O (AV (H8 (i:=wi) O O Y Y underlying22 Ji) (auH (enc:=Value.int .i64) H 0 O O O O O Y O Ji ?_))))
    clear H;refine axS fun _ H=>?_
    refine AO (DF (mZ ?_))
    refine AY O (AZ (nY ?_))
    refine⟨_,_,?_,rfl,j+1,wi+1,ys.set wi v,Y,Y,rfl,by rw[Hz];exact hyl,by rw[hst,Cj,←hwi];rfl,Y,?_,fun q hq=>?_,rfl,rfl,rfl,rfl,H⟩
    ·omega
    ·rw[hst,←hyt,←KT (show(ys.set wi v)[wi]? =some v by rw[Gf Y])]
     rw[List.take_set_of_le (BF _)]
    ·rw[Ez Y];exact hyr q Y
  ·obtain rfl:j=n:=Y
   rw[show xs.take j=xs by rw[←hl];exact F9]at hwi hyt
   refine iQ ?_
   refine gU ?_
   refine og ?_
   refine AP (Dz O (AQ O (AV (Yw (i:=wi) O O O Y underlying22 Ji) (aqd (enc:=Value.int .i64) (z:=0) H 0 O O O O Y underlying22 JH O ?_))))
   intro _ H';try (simp only[Bv,Nat.reduceAdd]at H')
   clear H;have H:=H';clear H'
   refine AO (AP (Dz O (AQ O (AV (P6 (j:=wi) O O O Y underlying22 Ji) (rW ?_)))))
   have h1:=H.Ro 0 rfl (m:=wi) Y
   simp only[Bf,GY]at h1
   rw[←Kw,PW (by rw[Ed,hyl];omega),hyt]at h1
   rw[hwi]at h1⊢
   exact⟨rfl,h1⟩
end
end
section
section
open Go.RowKit
theorem aqc{α β:Type}[DecidableEq α]:∀(L:List (α×β)) (a:α),(L.map Prod.fst).Nodup→FZ (NH L a) a=none
 | [],a,_=>rfl
 |x::L,a,h=>by
  simp only[DJ,HY]at h
  rw[NH]
  split
  ·rename_i e
   exact(IE L a).2 fun p hp e2=>h.1 (by rw[e,←e2];exact DN.2 ⟨p,hp,rfl⟩)
  ·rename_i e
   rw[FZ,if_neg e];exact aqc L a h.2
theorem aqe{α β:Type}[DecidableEq α]:∀(L:List (α×β)) (a b:α),b≠a→FZ (NH L a) b=FZ L b
 | [],a,b,_=>rfl
 |x::L,a,b,h=>by
  rw[NH]
  split
  ·rename_i e
   rw[FZ,if_neg (fun e2=>h (by rw[←e2,e]))]
  ·rw[FZ,FZ,aqe L a b h]
theorem afE{α β:Type}[DecidableEq α]:∀(L:List (α×β)) (a:α) (x:α×β),x∈NH L a→x∈L
 | [],a,x,h=>by simp[NH]at h
 |y::L,a,x,h=>by
  rw[NH]at h
  split at h
  ·exact DZ _ h
  ·rcases Dh.1 h with h|h
   ·rw[h];simp
   ·exact DZ _ (afE L a x h)
theorem ML.del{F:Nat→EP}{l:Vf}{N m k:Nat}(h:ML F l N)(hnd:(l.map Prod.fst).Nodup)(hm:m<4)(hk:k<32):ML (JJ F (k*5+1+m) EP.nil) (NH l ((m:Int),(k:Int))) N:=by
 refine⟨fun x hx=>h.keys x (afE _ _ _ hx),fun m' k' hm' hk'=>?_,fun i hi=>?_⟩
 ·by_cases e:m'=m∧k'=k
  ·obtain⟨rfl,rfl⟩:=e
   rw[aqc _ _ hnd,Oy];exact .inr ⟨rfl,rfl⟩
  ·have hne:((m':Int),(k':Int))≠((m:Int),(k:Int)):=fun e2=>e (by injection e2 with a b;exact⟨Y,Y⟩)
   rw[aqe _ _ _ hne,Lp _ _ Y]
   exact h.got m' k' hm' hk'
 ·by_cases e:i=k*5+1+m
  ·rw[e,Oy];exact Jh _
  ·rw[Lp _ _ e];exact h.len i hi
section
variable{p b N:Nat}{F:Nat→EP}{l:Vf}{w:World}
end
end
end
section
section
open Go.RowKit
theorem ags(f t:Int)(l:List Int):(stay f t l).length≤l.length:=Ho _ _
theorem aiC(S:TG){k:Nat}(hk:k<32):(Zn S (k:Int)).length=(cls S k).length:=by
 unfold Zn
 rw[if_pos (by unfold isC;exact decide_eq_true ⟨Y,Y⟩),adW,BJ]
theorem amz{w0 W:World}{I:List Nat}{L:List FU}{T:TypeId}{F:Nat→EP}{l:Vf}{N k:Nat}(H:Heap w0 I L W)(j:Nat)(hj:L[j]? =some (Yt T 160 F))(hok:ML F l N)(hk:k<32):(cls (xsOf F) k).length≤5*N:=by
 have h0:=hok.len (k*5) Y
 have h1:=hok.len (k*5+1) Y
 have h2:=hok.len (k*5+2) Y
 have h3:=hok.len (k*5+3) Y
 have h4:=hok.len (k*5+4) Y
 have g0:=MW H j hj (i:=k*5) Y
 have g1:=MW H j hj (i:=k*5+1) Y
 have g2:=MW H j hj (i:=k*5+2) Y
 have g3:=MW H j hj (i:=k*5+3) Y
 have g4:=MW H j hj (i:=k*5+4) Y
 unfold cls xsOf
 simp only[Cj]
 omega
structure RmQ (F:Nat→EP) (N k:Nat) (fr to:Int) (K:Nat) (F':Nat→EP) (l':Vf):Prop where
 ok:ML F' l' N
 xs:xsOf F'=MN (xsOf F) k fr to K
section
variable{p b N:Nat}{F:Nat→EP}{l:Vf}{w:World}
theorem anv(hE:Dj (ZK p b F F l) w)(hok:ML F l N)(hN:N≤100000)(k fr to:Int):
 Calls prog 280 [Q7 p,.int .i64 k,.int .i64 fr,.int .i64 to].toArray w fun e w'=>e= .returned (.int .i64 (V6 (xsOf F) k fr to).2)∧amY p b F l N (V6 (xsOf F) k fr to).1 w w':=by
 have H:=Heap.start hE
 have hC:=fun W=>abK k W
 unfold V6
 cases hk:isC k with
 |false=>
  simp only[hk]at hC
  rw[if_pos rfl]
  refine BO 65 func280 O (AP (WU H O O O ?_))
  intro p6 _ H';clear H;have H:=H';clear H'
  refine WU H O O O ?_
  intro p7 _ H';clear H;have H:=H';clear H'
  refine lV ?_
  refine BL H O (hC _) (Uy O) fun W1 H=>AV (Ib O) (gG ?_)
  exact⟨rfl,F,l,H.drop.drop,hok,rfl⟩
 |true=>
 simp only[hk]at hC
 rw[if_neg J]
 obtain⟨k,rfl,Jv⟩:=Xn hk
 rw[BJ]
 obtain⟨I,hI⟩:∃I,ids (ZK p b F F l)=I:=⟨_,rfl⟩
 have hL0:=fun{W:World} hE=>atq (p:=p) (b:=b) (F:=F) (l:=l) (w:=W) hE hok Y k
 simp only[aiC _ Jv]at hL0
 have hb0:=hok.len (k*5) Y
 have hlg:=MW H 2 rfl (i:=k*5) Y
 have hcl:=amz H 2 rfl hok Jv
 rw[hI]at H
 obtain⟨A0,n0,c0,xs0,hr0⟩:∃A n c xs,F (k*5)=⟨A,n,c,xs⟩:=⟨_,_,_,_,rfl⟩
 rw[hr0]at hb0 hlg
 replace hb0:n0≤N:=hb0
 replace hlg:xs0.length=n0:=hlg
 have hs0:=ags fr to xs0
 refine BO 65 func280 O (AP (WU H O O O ?_))
 intro p6 _ H';clear H;have H:=H';clear H'
 refine WU H O O O ?_
 intro p7 _ H';clear H;have H:=H';clear H'
 refine lV ?_
 refine BL H O (hC _) (Uy O) fun W1 H=>eU ?_
 refine eH ?_
 refine BL H O (hL0 H.drop.drop.ents) (apK O) fun W1 H=>AY O (AO (AP (AV (aiq O) (AV (DK (v:= .func _ _ _) O) (AO (A8 ?_))))))
 unfold ZK at H
 replace H:=H.pick 1 rfl
 simp only[FD,FH]at H
 replace H:=H.pull 4 rfl (i:=k*5) Y
 simp only[Bv]at H
 rw[hr0]at H
 unfold P7 at H
 have hD:=fun{W:World} hE=>ah1 A0 n0 c0 p6 p7 fr to xs0 W hE Y
 refine Gl (fun f W=>f 0=Q7 p∧f 1= .int .i64 k∧f 9= .int .i64 (cls (xsOf F) k).length∧f 10=acP p6 p7∧Heap w I (Ec 1 (.slice A0 (stay fr to xs0).length c0) (stay fr to xs0).length ((stay fr to xs0).map (Value.int .i64)) 3::P9 p6 p7 fr to++ [blk p (ZG (JJ F (k*5) ⟨A0,(stay fr to xs0).length,c0,stay fr to xs0⟩) b) 314,mp kF EP.v b l,Yt 3 160 (JJ F (k*5) EP.nil)]) W) ?_ ?_
 ·refine G5 mixed ?_;replace H:=H.drew
  refine xg ?_
  refine CZ 1 O O O (fun _ hS=>Cc (v:= .int _ _) O) trivial (CZ 2 O O O (fun _ hS=>Cc (v:= .pointer _) O) trivial (CZ 3 O O O (fun _ hS=>Cc (v:= .int _ _) O) trivial (CZ 4 O O O (fun _ hS=>DT O) trivial (CZ 5 O O O (fun _ hS=>Cm O L8) trivial (CZ 6 O O O (fun _ hS=>Ot (i:=k) O O Y Y underlying312 OE) trivial (CZ 8 O O O (fun _ hS=>Cc (v:= .func _ _ _) O) trivial (CZ 10 O O O (fun _ hS=>DT O) trivial (CZ 11 O O O (fun _ hS=>Cm O L8) trivial (BD 7 O (AV (DR H 3 O O (by rw[Jm Jv,hr0]) KQ) (sU ?_)))))))))))
  refine s_call O (hD (Heap.part (A:=[_,_,_]) H)) (acB O) ?_
  rintro e W1 ⟨rfl,H'⟩
  refine⟨_,rfl,?_⟩
  have H:=Heap.step (A:=[_,_,_]) H H' (fun _ h=>h);clear H';unfold P9 at H;simp only[Bv]at H
  refine ak ?_
  refine CZ 12 O O O (fun _ hS=>Ot (i:=k) O O Y Y underlying312 OE) trivial (BD 13 O (aeZ H 3 O O O O (Jm Jv) (Yg (r:=⟨A0,(stay fr to xs0).length,c0,stay fr to xs0⟩) Jv) O OE ?_))
  clear H;refine axS fun _ H=>?_
  refine kJ ?_
  exact⟨rfl,rfl,rfl,rfl,H⟩
 ·clear H
  rintro f W ⟨f0,f1,f9,f10,H⟩
  obtain⟨f,rfl⟩:=Jj f0 f1 f9 f10
  clear f0 f1 f9 f10
  unfold P9 at H
  simp only[Bv]at H
  have hg:∃F',RmQ F N k fr to 1 F' l∧Heap w I [blk p6 [.int .i64 fr] 3,blk p7 [.int .i64 to] 3,blk p (ZG F' b) 314,mp kF EP.v b l,Yt 3 160 F'] W:=by
   have h1:=Heap.push (r:=⟨A0,(stay fr to xs0).length,c0,stay fr to xs0⟩) H 4 rfl (i:=k*5) Y (Oy _ _ _)
   simp only[Bv]at h1
   rw[Vm]at h1
   refine⟨_,⟨hok.aq5 (k:=k) (by show(stay fr to xs0).length≤_;omega),?_⟩,h1⟩
   rw[SH,abm _ _ _ _ _ Y,agF]
   show Le (xsOf F) (k*5) (stay fr to xs0)=Le (xsOf F) (k*5) (stay fr to (F (k*5)).xs)
   rw[hr0]
  clear H
  obtain⟨F1,hq1,H⟩:=hg
  refine AX (iQ ?_)
  refine AO (E8 (EO (fun z f W=>∃(K:Nat) (F':Nat→EP) (l':Vf),K≤4∧z=4-K∧RmQ F N k fr to (K+1) F' l'∧f 0=Q7 p∧f 1= .int .i64 k∧f 9= .int .i64 (cls (xsOf F) k).length∧f 10=acP p6 p7∧f 35= .int .i64 K∧Heap w I [blk p6 [.int .i64 fr] 3,blk p7 [.int .i64 to] 3,blk p (ZG F' b) 314,mp kF EP.v b l',Yt 3 160 F'] W) 4 ⟨0,F1,l,Y,rfl,hq1,rfl,rfl,rfl,rfl,rfl,H⟩ ?_))
  clear H hq1
  rintro z f W ⟨K,F',l',hK,rfl,hq,f0,f1,f9,f10,f35,H⟩
  obtain⟨f,rfl⟩:=OJ f0 f1 f9 f10 f35
  clear f0 f1 f9 f10 f35
  by_cases hlt:K<4
  ·have gd:=gdF hlt Jv
   have hb1:=hq.ok.len (k*5+1+K) Y
   have hl1:=MW H 4 rfl (i:=k*5+1+K) Y
   have hxs:(F' (k*5+1+K)).xs=xsOf F (k*5+1+K):=by
    show xsOf F' _=_
    rw[hq.xs,show k*5+1+K=k*5+(K+1)by omega,akp _ _ _ _ _ _ ⟨Y,Y⟩]
   have hst:MN (xsOf F) k fr to (K+1+1)=Le (MN (xsOf F) k fr to (K+1)) (k*5+1+K) (stay fr to (xsOf F (k*5+1+K))):=by
    rw[abm _ _ _ _ _ Y,show k*5+(K+1)=k*5+1+K by omega]
   rcases hq.ok.got K k hlt Jv with hg|⟨hg,hnil⟩
   ·obtain⟨A1,n1,c1,xs1,hr1⟩:∃A n c xs,F' (k*5+1+K)=⟨A,n,c,xs⟩:=⟨_,_,_,_,rfl⟩
    rw[hr1]at hb1 hl1 hxs hg
    replace hb1:n1≤N:=hb1
    replace hl1:xs1.length=n1:=hl1
    replace hxs:xs1=xsOf F (k*5+1+K):=hxs
    have hs1:=ags fr to xs1
    have hD1:=fun{W:World} hE=>ah1 A1 n1 c1 p6 p7 fr to xs1 W hE Y
    refine nR ?_
    refine AO (AP (AQ O (AQ O (AV (FI (Nh _ _) O) (Ei H O adz fun p12 _ H=>En H 0 O O O O O O O KL ?_)))))
    clear H;refine axS fun _ H=>?_
    refine AO (A8 (k_q mixed Aw H (iM ?_)))
    refine BZ (fun _ H=>J5 H 0 O O O MC KL) (BZ (fun _ H=>afI H 4 O O O (gd) (hg) underlying311 (IY S9) O) (kW ?_))
    clear H;intro _ H
    refine AX (AP (BX O (AO (EF O ?_))))
    replace H:=H.pick 2 rfl
    simp only[FD,FH]at H
    replace H:=H.pick 2 rfl
    simp only[FD,FH]at H
    replace H:=H.pull 5 rfl (i:=k*5+1+K) Y
    simp only[Bv]at H
    rw[hr1]at H
    unfold P7 at H
    have hF:∀{W':World},Heap w I [Ec 1 (.slice A1 (stay fr to xs1).length c1) (stay fr to xs1).length ((stay fr to xs1).map (Value.int .i64)) 3,blk p6 [.int .i64 fr] 3,blk p7 [.int .i64 to] 3,blk p12 [.int .i64 K,.int .i64 k] 324,blk p (ZG F' b) 314,mp kF EP.v b (JX l' ((K:Int),(k:Int)) ⟨A1,(stay fr to xs1).length,c1,stay fr to xs1⟩),Yt 3 160 (JJ F' (k*5+1+K) EP.nil)] W'→∃F'' l'',RmQ F N k fr to (K+1+1) F'' l''∧Heap w I [blk p6 [.int .i64 fr] 3,blk p7 [.int .i64 to] 3,blk p (ZG F'' b) 314,mp kF EP.v b l'',Yt 3 160 F''] W':=fun H=>by
     have h1:=Heap.push (r:=⟨A1,(stay fr to xs1).length,c1,stay fr to xs1⟩) H 5 rfl (i:=k*5+1+K) Y (Oy _ _ _)
     simp only[Bv]at h1
     rw[Vm]at h1
     refine⟨_,_,⟨hq.ok.own hlt Jv (r:=⟨A1,(stay fr to xs1).length,c1,stay fr to xs1⟩) (by show(stay fr to xs1).length≤_;omega),?_⟩,?_⟩
     ·rw[SH,hst,hq.xs,←hxs]
     ·rw[aox hlt]
      exact h1.BQ [0,1,3,4,5] rfl rfl
    refine G5 mixed ?_;replace H:=H.drew
    refine aN ?_
    refine EC 2 O O O (fun _ hS=>Cm O KD) trivial (EC 5 O O O (fun _ hS=>Cc (v:= .slice _ _ _) O) trivial (EC 6 O O O (fun _ hS=>Cc (v:= .func _ _ _) O) trivial ?_))
    refine Vw 3 4 7 Aw ?_ ?_ ?_
    ·refine CB O (AV (DR H 4 O O (G6 _ b) Ky) (ak ?_))
     refine Et 4 7 ?_ ?_
     ·refine CB O (Dw H 3 O O O MC KL (wE ?_))
      refine mO ?_
      rintro e W1 ⟨rfl,H'⟩
      refine⟨_,rfl,?_⟩
      have H:=Heap.step (A:=[_,_,_]) H H' (fun _ h=>h);clear H';unfold P9 at H;simp only[Bv]at H
      refine ak ?_
      refine dV ?_
      clear H;refine axS fun _ H=>?_
      refine tu ?_
      obtain⟨F'',l'',hq2,H2⟩:=hF H;exact⟨_,_,Y,rfl,K+1,F'',l'',Y,rfl,hq2,rfl,rfl,rfl,rfl,rfl,H2⟩
     ·refine CB O (mO ?_)
      rintro e W1 ⟨rfl,H'⟩
      refine⟨_,rfl,?_⟩
      have H:=Heap.step (A:=[_,_,_]) H H' (fun _ h=>h);clear H';unfold P9 at H;simp only[Bv]at H
      refine jd ?_
      refine Dw H 3 O O O MC KL (ak ?_)
      refine dV ?_
      clear H;refine axS fun _ H=>?_
      refine tu ?_
      obtain⟨F'',l'',hq2,H2⟩:=hF H;exact⟨_,_,Y,rfl,K+1,F'',l'',Y,rfl,hq2,rfl,rfl,rfl,rfl,rfl,H2⟩
    ·refine CB O (Dw H 3 O O O MC KL (ak ?_))
     refine Et 3 7 ?_ ?_
     ·refine CB O (AV (DR H 4 O O (G6 _ b) Ky) (wE ?_))
      refine mO ?_
      rintro e W1 ⟨rfl,H'⟩
      refine⟨_,rfl,?_⟩
      have H:=Heap.step (A:=[_,_,_]) H H' (fun _ h=>h);clear H';unfold P9 at H;simp only[Bv]at H
      refine ak ?_
      refine dV ?_
      clear H;refine axS fun _ H=>?_
      refine tu ?_
      obtain⟨F'',l'',hq2,H2⟩:=hF H;exact⟨_,_,Y,rfl,K+1,F'',l'',Y,rfl,hq2,rfl,rfl,rfl,rfl,rfl,H2⟩
     ·refine CB O (mO ?_)
      rintro e W1 ⟨rfl,H'⟩
      refine⟨_,rfl,?_⟩
      have H:=Heap.step (A:=[_,_,_]) H H' (fun _ h=>h);clear H';unfold P9 at H;simp only[Bv]at H
      refine lY ?_
      refine AV (DR H 4 O O (G6 _ b) Ky) (ak ?_)
      refine dV ?_
      clear H;refine axS fun _ H=>?_
      refine tu ?_
      obtain⟨F'',l'',hq2,H2⟩:=hF H;exact⟨_,_,Y,rfl,K+1,F'',l'',Y,rfl,hq2,rfl,rfl,rfl,rfl,rfl,H2⟩
    ·refine CB O (mO ?_)
     rintro e W1 ⟨rfl,H'⟩
     refine⟨_,rfl,?_⟩
     have H:=Heap.step (A:=[_,_,_]) H H' (fun _ h=>h);clear H';unfold P9 at H;simp only[Bv]at H
     refine ak ?_
     refine Et 3 4 ?_ ?_
     ·refine CB O (AV (DR H 4 O O (G6 _ b) Ky) (jd ?_))
      refine Dw H 3 O O O MC KL (ak ?_)
      refine dV ?_
      clear H;refine axS fun _ H=>?_
      refine tu ?_
      obtain⟨F'',l'',hq2,H2⟩:=hF H;exact⟨_,_,Y,rfl,K+1,F'',l'',Y,rfl,hq2,rfl,rfl,rfl,rfl,rfl,H2⟩
     ·refine CB O (Dw H 3 O O O MC KL (lY ?_))
      refine AV (DR H 4 O O (G6 _ b) Ky) (ak ?_)
      refine dV ?_
      clear H;refine axS fun _ H=>?_
      refine tu ?_
      obtain⟨F'',l'',hq2,H2⟩:=hF H;exact⟨_,_,Y,rfl,K+1,F'',l'',Y,rfl,hq2,rfl,rfl,rfl,rfl,rfl,H2⟩
   ·refine nR ?_
    refine AO (AP (AQ O (AQ O (AV (FI (Nh _ _) O) (Ei H O adz fun p12 _ H=>En H 0 O O O O O O O KL ?_)))))
    clear H;refine axS fun _ H=>?_
    refine AO (A8 (k_q mixed Aw H (iM ?_)))
    refine BZ (fun _ H=>J5 H 0 O O O MC KL) (BZ (fun _ H=>agr H 4 O O O (gd) (hg) underlying311 (IY S9)) (kW ?_))
    clear H;intro _ H
    refine AX (AP (BX O (AO (o8 ?_))))
    refine⟨_,_,?_,rfl,K+1,F',l',Y,rfl,⟨hq.ok,?_⟩,rfl,rfl,rfl,rfl,rfl,H.drop⟩
    ·omega
    ·rw[hst,←hxs,hnil]
     show _=Le _ _ []
     have e:MN (xsOf F) k fr to (K+1) (k*5+1+K)=[]:=by rw[←hq.xs];show(F' (k*5+1+K)).xs=[];rw[hnil];rfl
     have:=ajp (MN (xsOf F) k fr to (K+1)) (k*5+1+K)
     rw[e]at this
     rw[this];exact hq.xs
  ·obtain rfl:K=4:=Y
   have hL1:=fun{W:World} hE=>atq (p:=p) (b:=b) (F:=F') (l:=l') (w:=W) hE hq.ok Y k
   simp only[aiC _ Jv,hq.xs]at hL1
   have aoi:=amz H 4 rfl hq.ok Jv
   rw[hq.xs]at aoi
   refine oh ?_
   refine AQ O (Bg O (AQ O (BL H O (hL1 H.drop.drop.ents) (apK O) fun W1 H=>mD ?_)))
   refine eu ?_
   exact⟨rfl,F',l',by rw[hI];exact H.drop.drop,hq.ok,hq.xs⟩
end
end
end
section
section
open Go.RowKit
section
variable{p b:Nat}{A:Option Addr}{c:Nat}{l:List Bool}(hk:Gn b A c l)(w:World)(hE:Dj (II p b A c l) w)
include hE hk
theorem alU(x t:Int):Calls prog 279 [pt p,.int .i64 x,.int .i64 t].toArray w fun e w'=>e= .returned (.int .i64 ((Bm.list l x t).length))∧Only [] w w':=by
 have H:=Heap.nil w
 have HR:=Heap.start hE
 have hlen:=hk.len
 have hN:=fun(x:Int) (W:World) (H:Heap w [] [] W)=>afz hk W (HR.same H.only).ents x
 refine BO 32 func279 O (oM ?_)
 refine oM ?_
 refine A8 (eH ?_)
 refine s_call O (hN x _ H) (Ze O) ?_
 rintro e W1 ⟨⟨r,ok,rfl,hnx⟩,HO⟩
 refine⟨_,rfl,?_⟩
 have H:=H.same HO;clear HO
 refine aF ?_
 refine AO (E8 ?_)
 refine EO (fun z f W=>∃(k:Nat) (r:Int) (ok:Bool),k≤131072∧z=131072-k∧Bm.PY l (max k x.toNat) r ok∧(k≠0→x.toNat≤k)∧f 0=pt p∧f 2= .int .i64 t∧f 7= .int .i64 (Bm.LK l x t k).length∧f 8= .int .i64 r∧f 9= .bool ok∧Heap w [] [] W) 131072 ⟨0,r,ok,Y,rfl,by rw[Nat.zero_max];exact hnx,fun h=>absurd O h,rfl,rfl,rfl,rfl,rfl,H⟩ ?_
 clear H hnx
 rintro z f W ⟨k,r,ok,hkl,rfl,hnx,hkx,f0,f2,f7,f8,f9,H⟩
 obtain⟨f,rfl⟩:=OJ f0 f2 f7 f8 f9
 clear f0 f2 f7 f8 f9
 have hll:=Bm.aaL l x t k
 cases ok with
 |true=>
  obtain⟨j,rfl,hkj,hjl,hup⟩:=Bm.acI l _ _ hnx
  have hj1:Bm.at_ l j=true:=by
   rcases hnx with⟨h,_⟩|⟨_,j',hj',_,h,_⟩
   ·cases h
   ·obtain rfl:j=j':=Y
    exact h
  have hsk:Bm.LK l x t j=Bm.LK l x t k:=by
   refine Bm.Zf l x t k j Y fun i h1 h2=>?_
   by_cases hx:(i:Int)<x
   ·exact .inr (.inl hx)
   ·refine .inl ?_
    rcases hnx with⟨h,_⟩|⟨_,j',hj',_,_,h⟩
    ·cases h
    ·exact h i Y Y
  by_cases hlt:(j:Int)<t
  ·have hsu:(Bm.LK l x t (j+1)).length=(Bm.LK l x t k).length+1:=by
    rw[Bm.Zk,hsk,if_pos ⟨hj1,Y,hlt⟩];simp
   have hN2:=hN ((j:Int)+1)
   rw[show((j:Int)+1).toNat=j+1 by omega]at hN2
   refine A8 (AP (BX O (BX O (Bo 17 O (Gm O) (Bo 17 O (Gm O) (Bo 17 O (DI O O Y) (EZ O O (AO (ng ?_)))))))))
   refine DF (mZ ?_)
   refine AY O (AZ (CS (AX (DF (Bg O (mZ ?_))))))
   refine s_call O (hN2 _ H) (Ze O) ?_
   rintro e W1 ⟨⟨r,ok,rfl,hnx⟩,HO⟩
   refine⟨_,rfl,?_⟩
   have H:=H.same HO;clear HO
   refine aF ?_
   refine AZ (Dk ?_)
   refine⟨_,_,?_,rfl,j+1,r,ok,Y,rfl,by rw[Nat.max_eq_left Y];exact hnx,Y,rfl,rfl,?_,rfl,rfl,H⟩
   ·omega
   ·show Value.int .i64 _=_
    rw[hsu];rfl
  ·have he:=Bm.aaF l x t k (fun i h1=>by
    by_cases hx:(i:Int)<x
    ·exact .inr (.inl hx)
    ·by_cases hij:i<j
     ·rcases hnx with⟨h,_⟩|⟨_,j',hj',_,_,h⟩
      ·cases h
      ·exact .inl (h i Y Y)
     ·exact .inr (.inr Y))
   rw[←he]
   refine A8 (AP (BX O (BX O (Bo 17 O (Gm O) (Bo 17 O (Gm O) (Bo 17 O (Di O O Y) (EZ O O (AO (eG ?_)))))))))
   refine AP (AQ O (eu ?_))
   exact⟨rfl,H.only⟩
 |false=>
  have he:=Bm.aaF l x t k (fun i h1=>by
   by_cases hx:(i:Int)<x
   ·exact .inr (.inl hx)
   ·rcases hnx with⟨_,_,h⟩|⟨h,_⟩
    ·exact .inl (h i Y)
    ·cases h)
  rw[←he]
  refine A8 (AP (BX O (BX O (Df 17 O O (Df 17 O O (Df 17 O O (DW O O (AO (eG ?_)))))))))
  refine AP (AQ O (eu ?_))
  exact⟨rfl,H.only⟩
end
section
variable{B:Option Addr}{d:Nat}{l:List Bool}(w:World)(hS:I5 Value.bool w [] B l)(hl:l.length≤255)
include hS hl
end
end
end
section
section
open Go.RowKit
def anF(d:Nv.D)(rf:Int):Prop:=(d.armed=true∧rf=d.fuse∧0≤rf∧rf≤9223372036854775807)∨(d.armed=false∧rf= -1)
structure agT where
 A0:Option Addr
 c0:Nat
 A1:Option Addr
 c1:Nat
 A2:Option Addr
 c2:Nat
 A3:Option Addr
 c3:Nat
 A4:Option Addr
 c4:Nat
 rf:Int
structure UF (w:World) (F:List Nat) (s:agT) (d:Nv.D) (m:Nat):Prop where
 now:I5 (Value.int .u64) w F s.A0 d.cache
 last:I5 (Value.int .u64) w F s.A1 d.last
 wait:I5 (Value.int .u64) w F s.A2 d.fl
 dirty:I5 Value.bool w F s.A3 d.dirty
 pend:I5 Value.bool w F s.A4 d.pend
 fuse:anF d s.rf
 ok:Nv.Ok d m
theorem UF.later{w W:World}{F G:List Nat}{s:agT}{d:Nv.D}{m:Nat}(h:UF w F s d m)(hO:Only G w W)(hG:∀i∈G,i∈F):UF W F s d m:=
 ⟨h.now.later hO hG,h.last.later hO hG,h.wait.later hO hG,h.dirty.later hO hG,h.pend.later hO hG,h.fuse,h.ok⟩
theorem UF.killed{w:World}{F:List Nat}{s:agT}{d:Nv.D}{m:Nat}(h:UF w F s d m):UF w F s (Nv.killed d) m:=
 ⟨h.now,h.last,h.wait,h.dirty,h.pend,h.fuse,h.ok.killed⟩
end
end
section
section
open Go.RowKit
end
end
section
section
open Go.RowKit
end
end
section
section
open Go.RowKit
end
end
section
section
open Go.RowKit
end
end
section
section
open Go.RowKit
theorem UF.news{w:World}{F G:List Nat}{s:agT}{d:Nv.D}{m:Nat}(h:UF w F s d m)(hG:∀i∈G,i∈F∨w.heap.size≤i):UF w G s d m:=
 ⟨h.now.news hG,h.last.news hG,h.wait.news hG,h.dirty.news hG,h.pend.news hG,h.fuse,h.ok⟩
end
end
section
section
open Go.RowKit
end
end
section
section
open Go.RowKit
end
end
section
section
open Go.RowKit
end
end
section
section
open Go.RowKit
end
end
section
section
open Go.RowKit
theorem UF.at{w W:World}{L:List FU}{F X:List Nat}{s:agT}{d:Nv.D}{m:Nat}(hr:UF w (F++X) s d m)(H:Heap w F L W):UF W ((F++X)++ids L) s d m:=
 (hr.news (G:=(F++X)++ids L) (fun i hi=>by
  rcases Ci.1 hi with h|h
  ·exact .inl h
  ·rcases H.own i h with h|h
   ·exact .inl (CO _ h)
   ·exact .inr h)).later H.only (fun _ h=>CO _ (CO _ h))
theorem Heap.fl{w W:World}{L:List FU}{F G:List Nat}(H:Heap w F L W)(hG:∀i∈G,i<w.heap.size):∀i∈G++ids L,i<W.heap.size:=by
 intro i hi
 rcases Ci.1 hi with h|h
 ·exact FV (hG i h) H.only.size
 ·exact H.aaQ i h
section
variable(g:Geo)(d:Nv.D)(s:agT)(m:Nat)(k a n v:Int)(A:Option Addr)(nc cc:Nat)(cs:List Int)(X:List Nat)(w:World)
end
end
end
section
namespace Tr
structure Good (P:Int→Bool) (pt:Int→List Int) (R:List Int) (A:Int→Prop):Prop where
 ro:∀r∈R,r=0∨A r
 on:∀a,A a→P a=true∧∀y∈pt a,y=0∨A y
structure G (A:Int→Prop) (s:S):Prop where
 bad:s.bad=[]
 se:∀x∈s.seen,A x
 op:∀x∈s.op,x∈s.seen
theorem G.reach{P:Int→Bool}{pt:Int→List Int}{R:List Int}{A:Int→Prop}(h:Good P pt R A){s:S}(g:G A s)(e:Int×Int)(a:Int)(ha:a=0∨A a):G A (reach P s e a):=by
 unfold Tr.reach
 split
 ·exact g
 ·rename_i h1
  have hA:=ha.resolve_left fun h2=>h1 (.inl h2)
  rw[if_pos (h.on a hA).1]
  refine⟨g.bad,fun x hx=>?_,fun x hx=>?_⟩
  ·rcases Ci.1 hx with h2|h2
   ·exact g.se x h2
   ·rw[Bz.1 h2];exact hA
  ·rcases Ci.1 hx with h2|h2
   ·exact CO _ (g.op x h2)
   ·exact Du _ h2
theorem ahS{l:List Int}{A:Int→Prop}(h:∀y∈l,y=0∨A y)(i:Nat):l.getD i 0=0∨A (l.getD i 0):=by
 by_cases hi:i<l.length
 ·exact h _ (getD_mem hi)
 ·exact .inl (by rw[BN,DX Y];rfl)
theorem G.along{P:Int→Bool}{pt:Int→List Int}{R:List Int}{A:Int→Prop}(h:Good P pt R A){s:S}(g:G A s)(y:Int)(l:List Int)(hl:∀x∈l,x=0∨A x):∀k,G A (along P s y l k)
 |0=>g
 |k+1=>(G.along h g y l hl k).reach h _ _ (ahS hl k)
theorem aoo{s:S}(h:s.op≠[]):top s∈s.op:=getD_mem (by have:=Hg.2 h;omega)
theorem G.step{P:Int→Bool}{pt:Int→List Int}{R:List Int}{A:Int→Prop}(h:Good P pt R A){s:S}(g:G A s)(h0:s.op≠[]):G A (step P pt s):=by
 have ht:=g.se _ (g.op _ (aoo h0))
 exact G.along (s:=pop s) h ⟨g.bad,g.se,fun x hx=>g.op x (Jb hx)⟩ _ _ (h.on _ ht).2 _
theorem G.steps{P:Int→Bool}{pt:Int→List Int}{R:List Int}{A:Int→Prop}(h:Good P pt R A){s:S}(g:G A s):∀k,(∀j,j<k→(steps P pt s j).op≠[])→G A (steps P pt s k)
 |0,_=>g
 |k+1,hj=>(G.steps h g k fun j hjk=>hj j Y).step h (hj k Y)
theorem G.roots{P:Int→Bool}{pt:Int→List Int}{R:List Int}{A:Int→Prop}(h:Good P pt R A):∀k,G A (Gp P s0 R k)
 |0=>⟨rfl,fun x hx=>(by cases hx),fun x hx=>(by cases hx)⟩
 |k+1=>(G.roots h k).reach h _ _ (ahS h.ro k)
structure aiH (P:Int→Bool) (pt:Int→List Int) (R L:List Int):Prop where
 nd:L.Nodup
 pl:∀a∈L,P a=true
 ro:∀r∈R,r=0∨r∈L
 on:∀a∈L,∀y∈pt a,y=0∨y∈L
 le:∀A,Good P pt R A→∀a∈L,A a
theorem aks{P:Int→Bool}{pt:Int→List Int}{R L:List Int}{A:Int→Prop}(h:Good P pt R A){N:Nat}(h1:∀j,j<N→(steps P pt (Gp P s0 R R.length) j).op≠[])(h2:(steps P pt (Gp P s0 R R.length) N).op=[])(hL:L.Perm (steps P pt (Gp P s0 R R.length) N).seen):
 (steps P pt (Gp P s0 R R.length) N).bad=[]∧aiH P pt R L:=by
 have hg:=(G.roots h R.length).steps h N h1
 have hok:=((ok0 P).Gp R R.length).steps (pt:=pt) N
 refine⟨hg.bad,(hL.nodup_iff).2 hok.nd,fun a ha=>hok.pl a (hL.mem_iff.1 ha),fun r hr=>?_,fun a ha y hy=>?_,fun B hB a ha=>?_⟩
 ·obtain⟨j,hj,e⟩:=Gg.1 hr
  have:=ace P s0 R R.length (G.roots h R.length).bad j hj
  rw[BN,Ba hj]at this
  rcases this with h3|h3
  ·exact .inl (by rw[←e];exact h3)
  ·refine .inr (hL.mem_iff.2 ?_)
   have:=acs P pt (Gp P s0 R R.length) 0 N r (by rw[←e];exact h3)
   rwa [EH]at this
 ·rcases Ye P pt (Gp P s0 R R.length) (abI P R R.length) N h1 hg.bad a (hL.mem_iff.1 ha) (by rw[h2];simp) y hy with h3|h3
  ·exact .inl h3
  ·exact .inr (hL.mem_iff.2 h3)
 ·exact((G.roots hB R.length).steps hB N h1).se a (hL.mem_iff.1 ha)
end Tr
end
section
section
open Go.RowKit
theorem ae7{fn:Func}{l:List Value}{N:Nat}(hN:fn.ntmps=N)(hl:Nat.ble l.length N=true):({tmps:=l.toArray++Array.replicate (fn.ntmps-l.toArray.size) undef,defers:=[]}:Act)=Fn ⟨N,[]⟩ (args l):=by
 have hl':l.length≤N:=LD hl
 simp only[Fn,Act.mk.injEq,and_true]
 apply JM
 intro i
 rw[OG]
 simp only[Jq,Fe,Cb,hN]
 split
 ·rename_i hi
  have hg:l[i]? =some l[i]:=Ba hi
  have hiN:i<N:=Y
  have hr:(List.range N)[i]? =some i:=by simp[hiN]
  rw[hg,hr,EG];simp[args,List.getD,hg]
 ·rename_i hi
  by_cases hiN:i<N
  ·have hr:(List.range N)[i]? =some i:=by simp[hiN]
   rw[hr,EG,Ht,if_pos Y]
   simp[args,List.getD,DX (OQ hi)]
  ·have hr:(List.range N)[i]? =none:=by simp;omega
   rw[hr,Jw,Ht,if_neg Y]
section
variable{P:Program}{n:Sz}{k id:Nat}{f:Nat→Value}{W w0:World}{Q:Exit→Act→World→Prop}{v:Value}
theorem acO{g:FuncId}{fn:Func}{c:Code}{l:List Value}{R:Ending→World→Prop}(hf:P.funcs[g]? =some fn)(hb:fn.body=some c){N:Nat}(hN:fn.ntmps=N)(hl:Nat.ble l.length N=true)
 (h:CW P c (bodyPostD P fn R) ⟨N,[]⟩ (args l) W):Calls P g l.toArray W R:=by
 refine calls_of_wp_defers hf hb ?_
 rw[ae7 hN hl]
 exact h.out
theorem aqr{g:FuncId}{fn:Func}{c:Code}{l:List Value}{u:FrameMode}{R:Ending→World→Prop}(hf:P.funcs[g]? =some fn)(hb:fn.body=some c){N:Nat}(hN:fn.ntmps=N)(hl:Nat.ble l.length N=true)
 (h:CW P c (bodyPost P fn R) ⟨N,[]⟩ (args l) W):CallsD P g l.toArray u W fun e u' w'=>u'=u∧R e w':=by
 refine callsD_of_wp hf hb ?_
 rw[ae7 hN hl]
 exact h.out
def dfn(G:Nat)(vs:List Value):Deferred:={target:= .fn (.func G) #[],args:=vs.toArray}
theorem ajD{G:FuncId}{xs:Array Operand}{tys:Array TypeId}{dst:Option Tmp}{vs:List Value}{ty:TypeId}{pos:String}{af:Array Edge}{g:Option (Nat×Bool)}(hv:xs.toList.map (ev n f)=vs)(W:World):(execOp (ev n f) ⟨dst,.defer ⟨.value (.func G),xs,tys⟩,ty,pos,af,g⟩).run P W= .ok (.defer (dfn G vs)) W:=by
 subst hv
 have h3:xs.map (ev n f)=(xs.toList.map (ev n f)).toArray:=by rw[←Ie]
 simp only[execOp,resolve,Deferred.ofValue,ev,Sem.run_bind,Sem.run_pure,Result.andThen_ok,h3]
 have h4:(#[]:Array Value)++(xs.toList.map (ev n f)).toArray=(xs.toList.map (ev n f)).toArray:=by simp
 rw[h4];rfl
theorem ai0{o1 o2:Oper}{D:Deferred}(hd:o1.dst=some k)(hw:Region.wanted o1 (yl n f #[o1,o2])=true)(hr:(execOp (ev n f) o1).run P W= .ok (.value v) W)
 (hd2:o2.dst=none) (hw2:Region.wanted o2 (yl n (upd f k v) #[o1,o2])=true) (hr2:(execOp (ev n (upd f k v)) o2).run P W= .ok (.defer D) W) (hno:UH (Code.region id #[o1,o2] false)=false)
 (h:PQ Q .normal ⟨n.n,D::n.d⟩ (upd f k v) W):CW P (Code.region id #[o1,o2] false) Q n f W:=by
 refine .alone hno (wp_region_lit (l:=[o1,o2]) ?_)
 have hy:∀f,yielded #[o1,o2] (Fn n f).tmps=yl n f #[o1,o2]:=fun f=>funext (Ri n f #[o1,o2])
 refine jg ?_
 rw[JC,hr,Oper.upon_value,hd,NV]
 unfold wpList
 rw[hy,if_pos hw2]
 refine .inl ?_
 unfold Oper.wp
 rw[JC,hr2,Oper.upon_defer,hd2]
 exact h.out
theorem door {fn : Func} {R : Ending → World → Prop} {N G : Nat} {vs : List Value} {F : Func} {R2 : Ending → World → Prop} (hf : P.funcs[G]? = some F) (hn : (F.name == "runtime.NumGoroutine") = false) (hb : F.body.isNone = false)
 (hc:CallsD P G vs.toArray .returning W fun e u' w'=>u'= .returning∧R2 e w')
 (h:∀e W',R2 e W'→∃v,e= .returned v∧∃v2,(results fn (Fn ⟨N,[]⟩ f).tmps).run P W'= .ok v2 W'∧R (.returned v2) W'):Leaves P fn (Fn ⟨N,[dfn G vs]⟩ f).tmps R [dfn G vs] .returning W:=by
 refine leaves_cons (f:=G) (args:=vs.toArray) J ?_ (hc.mono ?_)
 ·show(callFunc G (vs.toArray++ #[])).run P W=_
  rw[Array.append_empty,Nr hf hn hb]
 ·rintro e u' w' ⟨rfl,hR⟩
  obtain⟨v,rfl,v2,h2,h3⟩:=h e w' hR
  exact⟨v2,h2,h3⟩
theorem ahX {fn : Func} {R : Ending → World → Prop} {N G t : Nat} {vs : List Value} {F : Func} {R2 : Ending → World → Prop} {v : Value} (hf : P.funcs[G]? = some F) (hn : (F.name == "runtime.NumGoroutine") = false) (hb : F.body.isNone = false) (hr : fn.results = #[.tmp t]) (hv : ev ⟨N, []⟩ f (.tmp t) = v)
 (hc:CallsD P G vs.toArray .returning W fun e u' w'=>u'= .returning∧R2 e w')
 (h:∀e W',R2 e W'→(∃v,e= .returned v)∧R (.returned v) W'):PQ (bodyPostD P fn R) .ret ⟨N,[dfn G vs]⟩ f W:=
 ⟨door hf hn hb hc fun e W' hR=>(h e W' hR).1.elim fun v1 e1=>⟨v1,e1,v,by rw[results_tmp hr,Uu,hv],(h e W' hR).2⟩⟩
theorem apW {fn : Func} {R : Ending → World → Prop} {N G t u : Nat} {vs : List Value} {F : Func} {R2 : Ending → World → Prop} {v v2 : Value} (hf : P.funcs[G]? = some F) (hn : (F.name == "runtime.NumGoroutine") = false) (hb : F.body.isNone = false) (hr : fn.results = #[.tmp t, .tmp u]) (hv : ev ⟨N, []⟩ f (.tmp t) = v) (hu : ev ⟨N, []⟩ f (.tmp u) = v2)
 (hc:CallsD P G vs.toArray .returning W fun e u' w'=>u'= .returning∧R2 e w')
 (h:∀e W',R2 e W'→(∃v,e= .returned v)∧R (.returned (.tuple #[v,v2])) W'):PQ (bodyPostD P fn R) .ret ⟨N,[dfn G vs]⟩ f W:=
 ⟨door hf hn hb hc fun e W' hR=>(h e W' hR).1.elim fun v1 e1=>⟨v1,e1,.tuple #[v,v2],by rw[results_tmp2 hr,Uu,Uu,hv,hu],(h e W' hR).2⟩⟩
end
end
end
section
section
section
open Go.ChangeShapes Go.WideShapes Go.Deep
variable{H:Type}{enc:TypeId×Value→H}{w:World}{base:Nat}{spare:Nat→Bool}{held:Bool}
theorem aum{b o i:Nat}:(⟨b,o,none⟩:Addr).add i=⟨b,o+i,none⟩:=by
 unfold Addr.add;split
 ·subst_vars;rfl
 ·rfl
theorem amK{α:Type}{Q:Nat→α→Prop}:∀n:Nat,(∀i,i<n→∃x,Q i x)→∃l:List α,l.length=n∧∀i x,l[i]? =some x→Q i x
 |0,_=>⟨[],rfl,J⟩
 |n+1,h=>by
  obtain⟨l,hl,hq⟩:=amK n (fun i hi=>h i Y)
  obtain⟨x,hx⟩:=h n Y
  refine⟨l++ [x],by simp[hl],fun i y hy=>?_⟩
  by_cases hi:i<l.length
  ·rw[Gs hi]at hy;exact hq i y hy
  ·have hi2:i<n+1:=by have:=(BK.1 hy).1;simp at this;omega
   obtain rfl:i=n:=Y
   rw[Em Y]at hy
   simp[hl]at hy
   subst hy;exact hx
theorem auB{t:TypeId}{fs:Array Field}(h:prog.underlying t=some (.struct fs))(h2:(match prog.underlying t with|some (.struct fs)=>oneCellFields prog fs|_=>false)=true):oneCellFields prog fs=true:=by
 rw[h]at h2;exact h2
end
end
end
section
section
open Go.RowKit
structure Bop where
 f0:Int
 f1:Int
 f2:Int
def Bop.cells(u:Bop):List Value:=[.int .i64 u.f0,.int .u64 u.f1,.int .u64 u.f2]
structure acH (w:World) (u:Bop):Prop where
 w0:(Lit.int .i64 u.f0).wf=true
 w1:(Lit.int .u64 u.f1).wf=true
 w2:(Lit.int .u64 u.f2).wf=true
def SK(w:World)(A:Option Addr)(ops:List Bop):Prop:=(ops.length≠0→∃b o,A=some ⟨b,o,none⟩∧∀i op,ops[i]? =some op→Reads (fun v:Value=>v) w b (o+i*3) op.cells)∧∀op∈ops,acH w op
theorem acH.later{w W:World}{u:Bop}(h:acH w u)(hO:Only [] w W):acH W u:=⟨h.w0,h.w1,h.w2⟩
theorem SK.later{w W:World}{A:Option Addr}{ops:List Bop}(h:SK w A ops)(hO:Only [] w W):SK W A ops:=
 ⟨fun h0=>by
  obtain⟨b,o,e,hr⟩:=h.1 h0
  exact⟨b,o,e,fun i op hi=>(hr i op hi).later hO J⟩,fun op hop=>(h.2 op hop).later hO⟩
section
open Go.ChangeShapes Go.WideShapes Go.Deep
variable{H:Type}{enc:TypeId×Value→H}{w:World}{base:Nat}{spare:Nat→Bool}{held:Bool}
theorem ak5{fuel:Nat}{cs:List Value}{y:DataW H×List MemPlace}(h:DataW.trod enc prog w base spare held fuel 58 cs=some y):∃op:Bop,cs=op.cells∧acH w op:=by
 obtain⟨xs,n,_,_,hl,hlen,hg⟩:=DataW.trod_struct underlying58 h
 have hone:=auB underlying58 Aw
 have hcl:cs.length=3:=hl.trans Aw
 replace hlen:xs.length=3:=hlen
 match cs,hcl,xs,hlen with
 | [c0,c1,c2],_,[y0,y1,y2],_=>
  obtain⟨o0,k0⟩:=hone_of hone 0 _ rfl
  obtain⟨o1,k1⟩:=hone_of hone 1 _ rfl
  obtain⟨o2,k2⟩:=hone_of hone 2 _ rfl
  have g0:=hg 0 _ rfl
  have g1:=hg 1 _ rfl
  have g2:=hg 2 _ rfl
  rw[o0,k0]at g0
  rw[o1,k1]at g1
  rw[o2,k2]at g2
  replace g0:=g0.trans (show _=some y0 from rfl)
  replace g1:=g1.trans (show _=some y1 from rfl)
  replace g2:=g2.trans (show _=some y2 from rfl)
  obtain⟨z0,e0,_,w0⟩:=DataW.trod_int underlying3 g0
  obtain⟨z1,e1,_,w1⟩:=DataW.trod_int underlying26 g1
  obtain⟨z2,e2,_,w2⟩:=DataW.trod_int underlying26 g2
  obtain rfl:c0= .int .i64 z0:=by simpa using e0
  obtain rfl:c1= .int .u64 z1:=by simpa using e1
  obtain rfl:c2= .int .u64 z2:=by simpa using e2
  exact⟨⟨z0,z1,z2⟩,rfl,w0,w1,w2⟩
theorem aji(W:World){r:Reach}(b0:Nat)(v:Value)(d:DataW H)(p:List MemPlace)
 (hv:Value.okWide prog W r b0 50 v) (h:DataW.Trod enc prog W base spare held 50 v d p):
 ∃x:Option Addr×Nat×Nat×List Bop,v= .slice x.1 x.2.1 x.2.2.1∧(SK W x.1 x.2.2.2∧x.2.2.2.length=x.2.1∧x.2.1≤9223372036854775807∧x.2.1≤x.2.2.1):=by
 obtain⟨a,len,cap,rfl⟩:=okWide_slice underlying50 hv
 obtain⟨fuel,hf⟩:=h
 have c5:prog.cellsOf 58=3:=by kernel_rfl
 rcases open_slice underlying50 hf with⟨hcs,_⟩|⟨x,l,c,m,n,D,Pl,hcs,_,hl,hm,hmm,_,hx⟩
 ·simp[Value.cells]at hcs
  obtain⟨rfl,rfl,rfl⟩:=hcs
  exact⟨(none,0,0,[]),rfl,⟨fun h=>absurd rfl h,J⟩,rfl,by show(0:Nat)≤_;omega,by show(0:Nat)≤_;omega⟩
 ·simp[Value.cells]at hcs
  obtain⟨rfl,rfl,rfl⟩:=hcs
  rw[c5]at hx
  have hlm:len≤m:=by rw[hmm];split<;>omega
  obtain⟨ops,hol,hq⟩:=amK (Q:=fun i (op:Bop)=>acH W op∧∀j u,op.cells[j]? =some u→W.cell? (x.add (i*3+j))=some u) len (fun i hi=>by
   obtain⟨cs',hc,ht⟩:=hx i Y
   obtain⟨op,rfl,hok⟩:=ak5 ht
   obtain⟨_,hcl,hat⟩:=World.cells?_some hc
   refine⟨op,hok,fun j u hj=>?_⟩
   have hj5:j<3:=by have:=(BK.1 hj).1;rw[hcl]at this;exact this
   rw[←Go.Deep.add_add,hat j hj5,hj])
  refine⟨(some x,len,cap,ops),rfl,⟨fun h0=>?_,fun op hop=>?_⟩,hol,by simp only[maxLen]at hm;show len≤_;omega,by show len≤cap;omega⟩
  ·have h00:ops.length≠0:=h0
   obtain⟨op0,hop0⟩:∃op,ops[0]? =some op:=⟨_,Ba Y⟩
   obtain⟨b,off,spot⟩:=x
   have hc0:=(hq 0 op0 hop0).2 0 _ rfl
   have hspot:spot=none:=by simpa [Addr.add]using World.cell?_spot hc0
   subst hspot
   refine⟨b,off,rfl,fun i op hi j u hu=>?_⟩
   have:=(hq i op hi).2 j u hu
   rw[aum]at this
   rw[IZ];exact this
  ·obtain⟨i,hi,rfl⟩:=Gg.1 hop
   exact(hq i _ (Ba hi)).1
end
end
end
end Go.Proofs.YtppilhpcmkekbaaGreat
