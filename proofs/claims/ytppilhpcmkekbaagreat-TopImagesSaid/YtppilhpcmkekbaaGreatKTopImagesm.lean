/- Parts of the proof. -/
import Derived.Test.YtppilhpcmkekbaaGreatKTopImagesl
set_option linter.unusedSimpArgs false
set_option linter.unusedVariables false
set_option linter.unusedSectionVars false
set_option maxRecDepth 100000
set_option maxHeartbeats 16000000
namespace Go.Proofs.YtppilhpcmkekbaaGreat
open Go.Proofs.Tryz
section
section
open Go.RowKit
theorem Xu{α:Type}{enc:α→Value}{W:World}{b o c:Nat}{ws:List α}(hr:Reads enc W b o ws)(i:Nat)(hc:ws.length≤c)(hi:i≤ws.length):
 ∃o2,(if c=i then(⟨b,o,none⟩:Addr)else⟨b,o+i*1,none⟩)=⟨b,o2,none⟩∧Reads enc W b o2 (ws.drop i):=by
 by_cases h:c=i
 ·refine⟨o,by rw[if_pos h],?_⟩
  rw[LJ Y]
  intro k z hk;simp at hk
 ·refine⟨o+i*1,by rw[if_neg h],?_⟩
  intro k z hk
  rw[DV]at hk
  have:=hr _ z hk
  rwa [←Gs,←Jh i]at this
section
variable{P:Program}{n:Sz}{f:Nat→Value}{W w0:World}{dst:Option Tmp}{ty:TypeId}{pos:String}{af:Array Edge}{g:Option (Nat×Bool)}{x y:Operand}{t t2 e:TypeId}{v:Value}{k k2:IntKind}{a b:Int}
theorem adX{p o l c o2 l2 c2:Nat}{lo:Operand}{i:Nat}(hx:ev n f x= .slice (some ⟨p,o,none⟩) l c)(hl:ev n f lo= .int k a)(ha:a=(i:Int))(hi:i≤l)(ho:(if c=i then(⟨p,o,none⟩:Addr)else⟨p,o+i*1,none⟩)=⟨p,o2,none⟩)(hl2:l-i=l2)(hc2:c-i=c2)(h:P.underlying t=some (.slice e))(hm:∀W,(Go.sizeOf e).run P W= .ok 1 W):
 (execOp (ev n f) ⟨dst,.slice t x (some lo) none none,ty,pos,af,g⟩).run P W= .ok (.value (.slice (some ⟨p,o2,none⟩) l2 c2)) W:=by
 rw[av6 hx hl ha hi h hm,ho,hl2,hc2]
end
theorem ajQ(f zz mm:Nat)(t:List Int)(N:Int)(o:List Int)(h:(o.length:Int)<N):
 Im.read (f+1) ((zz:Int)::(mm:Int)::t) N o=if Im.bad zz mm (N-o.length) o.length=true then([],26)else if(mm:Int)>(t.length:Int)then([],31)
  else if Im.O8 (t.take mm)=true then Im.read f (t.drop mm) N (o++List.replicate zz 0++t.take mm)else([],26):=by
 rw[Im.read,if_pos h,if_neg J]
 rfl
theorem read_short(f:Nat)(w:List Int)(N:Int)(o:List Int)(h:(o.length:Int)<N)(h2:w.length<2):Im.read (f+1) w N o=([],31):=by
 rw[Im.read,if_pos h,if_pos h2]
theorem amS(f:Nat)(w:List Int)(N:Int)(o:List Int)(h:¬(o.length:Int)<N):Im.read (f+1) w N o=if w.length>0 then([],32)else(o,0):=by
 rw[Im.read,if_neg h]
theorem agc(l:List Int)(k:Nat)(x:Int)(h:l[k]? =some x)(h0:Im.O8 (l.take k)=true)(hx:x≠0):Im.O8 (l.take (k+1))=true:=by
 rw[←aaW h]
 unfold Im.O8 at*
 rw[List.all_append,h0]
 simp[hx]
theorem ajW(l:List Int)(k m:Nat)(h:l[k]? =some 0)(hk:k<m):¬Im.O8 (l.take m)=true:=by
 intro h0
 unfold Im.O8 at h0
 rw[Ll]at h0
 have:(l.take m)[k]? =some 0:=by rw[IV,if_pos hk];exact h
 have:=h0 0 (A8 this)
 simp at this
def Vx(R:List Int×Int)(w:World)(e:Ending)(w':World):Prop:=
 ∃A' c',e= .returned (.tuple #[.slice A' R.1.length c',.int .i64 R.2])∧Heap w [] [Dw 1 (.slice A' R.1.length c') R.1.length (R.1.map (Value.int .u64)) 26] w'
theorem Vx.err{w W:World}{L:List Fp}(H:Heap w [] L W)(code:Int):Vx ([],code) w (.returned (.tuple #[.slice none 0 0,.int .i64 code])) W:=
 ⟨none,0,rfl,ati H.clear _⟩
theorem att(b o c N:Nat)(wl:List Int)(w:World)(hr:Reads (Value.int .u64) w b o wl)(hc:wl.length≤c∧c≤9223372036854775807)(hq:wl.length≤1000000)(hU:Im.U wl)(hN:N≤200000):
 Calls prog 45 [.slice (some ⟨b,o,none⟩) wl.length c,.int .i64 N].toArray w (Vx (Im.read (N+1) wl N []) w):=by
 have H:=Heap.nil w
 generalize hR:Im.read (N+1) wl N []=R
 refine BM 98 func45 O (Aw (En O (oG ?_)))
 refine auk (Value.int .u64) 0 (m:=N) H O O O Y Y Y underlying55 Ig O ?_
 intro po _ H';clear H;have H:=H';clear H'
 refine En O (Au (AP (E8 (Ec (fun z f W=>∃(wl' out:List Int) (o' c':Nat) (A2:Option Addr) (c2:Nat),N<out.length+z∧out.length≤N∧Im.read z wl' N out=R∧f 0= .slice (some ⟨b,o',none⟩) wl'.length c'∧wl'.length≤c'∧c'≤9223372036854775807∧wl'.length≤1000000∧Im.U wl'∧Reads (Value.int .u64) w b o' wl'∧f 1= .int .i64 N∧f 6= .slice A2 out.length c2∧Heap w [] [Dw 1 (.slice A2 out.length c2) out.length (out.map (Value.int .u64)) 26] W) (N+1) ⟨wl,[],o,c,some ⟨po,0,none⟩,N,J,J,hR,rfl,hc.1,hc.2,hq,hU,hr,rfl,rfl,H⟩ ?_))))
 clear H hR hr hc hq hU
 rintro z f W ⟨wl,out,o,c,A2,c2,hz,hon,hR,f0,hc,hcm,hq,hU,hr,f1,f6,H⟩
 obtain⟨f,rfl⟩:=OE f0 f1 f6
 clear f0 f1 f6
 obtain⟨fu,rfl⟩:∃fu,z=fu+1:=⟨z-1,Y⟩
 by_cases hlt:out.length<N
 ·by_cases h2:wl.length<2
  ·rw[read_short fu wl N out Y h2]at hR
   subst hR
   refine tX ?_
   refine Az O (AL (Df O O Y) (x9 ?_))
   refine tX ?_
   refine AL (Df O O Y) (ql ?_)
   refine En O (oL ?_)
   refine Fe (CX (Fe (CX (fP ?_))))
   exact Vx.err H _
  ·obtain⟨a,b',t,rfl⟩:∃a b t,wl=a::b::t:=by
    rcases wl with _|⟨a,_|⟨b,t⟩⟩
    ·simp at h2
    ·simp at h2
    ·exact⟨a,b,t,rfl⟩
   have ha:=hU a J
   have hb:=hU b' J
   obtain⟨zz,rfl⟩:=Bo ha.1
   obtain⟨mm,rfl⟩:=Bo hb.1
   rw[ajQ fu zz mm t N out Y]at hR
   obtain⟨o2,ho2,hr2⟩:=Xu (c:=c) hr 2 hc J
   have hUt:Im.U t:=fun x hx=>hU x (by simp[hx])
   simp only[Qg,OB]at hr2
   simp only[Em]at hc hq h2⊢
   have hc0:=hr 0 _ rfl
   have hc1:=hr 1 _ rfl
   refine tX ?_
   refine Az O (AL (Df O O Y) (x9 ?_))
   refine tX ?_
   refine AL (CO O O Y) (dX ?_)
   refine rG ?_
   refine jc ?_
   refine BK (fun _ H=>Gp (i:=0) O O Y Y underlying55 GV) (BK (fun _ H=>Hq H (i:=o+0) O hc0 J GR) (jc ?_))
   refine BK (fun _ H=>Gp (i:=1) O O Y Y underlying55 GV) (BK (fun _ H=>Hq H (i:=o+1) O hc1 J GR) (vW ?_))
   refine vW ?_
   refine H8 ?_
   clear H;intro _ H
   refine AO (Aw (CY O (AL (adX (i:=2) (o2:=o2) (l2:=t.length) (c2:=c-2) O O O Y ho2 Y O underlying55 GV) (En O (Au (Aw (Az O (dV ?_))))))))
   refine nK ?_
   refine iC ?_
   refine qw ?_
   refine AP ?_
   refine Jj (fun f W=>f 0= .slice (some ⟨b,o2,none⟩) t.length (c-2)∧f 1= .int .i64 N∧f 6= .slice A2 out.length c2∧f 7= .int .u64 zz∧f 8= .int .u64 mm∧f 67= .bool (Im.bad zz mm (N-out.length) out.length)∧Heap w [] [Dw 1 (.slice A2 out.length c2) out.length (out.map (Value.int .u64)) 26] W) ?_ ?_
   ·by_cases k1:(zz:Int)>N-out.length
    ·have hbd:Im.bad zz mm (N-out.length) out.length=true:=decide_eq_true Y
     rw[hbd]
     refine DR (Az O (Az O (AL (Jl O O Y) (BL O (Cc 37 O O (Cc 37 O O (Cc 37 O O (Cc 37 O O (Cc 37 O O (ED O O (BL O (Cc 44 O O (Cc 44 O O ?_)))))))))))))
     refine Cc 44 O O (Cc 44 O O (ED O O (iw ?_)))
     exact⟨rfl,rfl,rfl,rfl,rfl,rfl,H⟩
    by_cases k2:(mm:Int)>N-out.length-zz
    ·have hbd:Im.bad zz mm (N-out.length) out.length=true:=decide_eq_true Y
     refine qW ?_
     refine AX 37 O (Jl O O Y) (Dp O O (BL O (Cc 44 O O (Cc 44 O O (Cc 44 O O (Cc 44 O O (ED O O (iw ?_))))))))
     exact⟨rfl,rfl,rfl,rfl,rfl,rfl,H⟩
    by_cases k3:(zz:Int)+mm=0
    ·have hbd:Im.bad zz mm (N-out.length) out.length=true:=decide_eq_true Y
     refine qW ?_
     refine AX 37 O (ER O O Y) (Dp O O (BL O (AX 44 O (Fz O) (AX 44 O (Fz O) (AX 44 O (Dk O O (wU Y)) (AX 44 O (Fv O O Y) (Dp O O (iw ?_))))))))
     exact⟨rfl,rfl,rfl,rfl,rfl,rfl,H⟩
    by_cases k4:0<out.length
    ·by_cases k5:zz=0
     ·have hbd:Im.bad zz mm (N-out.length) out.length=true:=decide_eq_true Y
      rw[hbd]
      refine DR (Az O (Az O (aI ?_)))
      refine AX 50 O (Jl O O Y) (AX 50 O (WU O) (AX 54 O (Fz O) (AX 54 O (Fv O O Y) (AX 50 O (HY (v:= .bool _) O O) (Dp O O (BL O (Cc 59 O O (Cc 59 O O (Cc 59 O O (Iq 62 O (Iq 62 O (Iq 62 O (Cc 59 O O ?_)))))))))))))
      refine ED O O (AA (Dt ?_))
      exact⟨rfl,rfl,rfl,rfl,rfl,rfl,H⟩
     by_cases k6:mm=0
     ·by_cases k7:(zz:Int)=N-out.length
      ·have hbd:Im.bad zz mm (N-out.length) out.length=false:=decide_eq_false Y
       refine iF ?_
       refine kS ?_
       refine AX 62 O (Dc O O Y) (qN ?_)
       exact⟨rfl,rfl,rfl,rfl,rfl,rfl,H⟩
      ·have hbd:Im.bad zz mm (N-out.length) out.length=true:=decide_eq_true Y
       refine iF ?_
       refine kS ?_
       refine AX 62 O (Hl O O Y) (qN ?_)
       exact⟨rfl,rfl,rfl,rfl,rfl,rfl,H⟩
     ·have hbd:Im.bad zz mm (N-out.length) out.length=false:=decide_eq_false Y
      refine iF ?_
      refine rE ?_
      exact⟨rfl,rfl,rfl,rfl,rfl,rfl,H⟩
    by_cases k6:mm=0
    ·by_cases k7:(zz:Int)=N-out.length
     ·have hbd:Im.bad zz mm (N-out.length) out.length=false:=decide_eq_false Y
      refine tK ?_
      refine kS ?_
      refine AX 62 O (Dc O O Y) (qN ?_)
      exact⟨rfl,rfl,rfl,rfl,rfl,rfl,H⟩
     ·have hbd:Im.bad zz mm (N-out.length) out.length=true:=decide_eq_true Y
      refine tK ?_
      refine kS ?_
      refine AX 62 O (Hl O O Y) (qN ?_)
      exact⟨rfl,rfl,rfl,rfl,rfl,rfl,H⟩
    ·have hbd:Im.bad zz mm (N-out.length) out.length=false:=decide_eq_false Y
     refine tK ?_
     refine rE ?_
     exact⟨rfl,rfl,rfl,rfl,rfl,rfl,H⟩
   ·clear H
    rintro f W ⟨f0,f1,f6,f7,f8,f67,H⟩
    by_cases hbd:Im.bad zz mm (N-out.length) out.length=true
    ·rw[if_pos hbd]at hR
     rw[hbd]at f67
     obtain⟨f,rfl⟩:=PX f0 f1 f6 f7 f8 f67
     clear f0 f1 f6 f7 f8 f67
     subst hR
     refine AO (EI O (Aw (En O (oL ?_))))
     refine Fe (CX (Fe (CX (fP ?_))))
     exact Vx.err H _
    ·rw[if_neg hbd]at hR
     have hbd2:Im.bad zz mm (N-out.length) out.length=false:=by simpa using hbd
     rw[hbd2]at f67
     obtain⟨f,rfl⟩:=PX f0 f1 f6 f7 f8 f67
     clear f0 f1 f6 f7 f8 f67
     have ayF:=of_decide_eq_false hbd2
     clear hbd hbd2
     by_cases hm:(mm:Int)>(t.length:Int)
     ·rw[if_pos hm]at hR
      subst hR
      refine AO (DX O (Bj (AO (wo ?_))))
      refine iC ?_
      refine AL (Jl O O Y) (ql ?_)
      refine En O (oL ?_)
      refine Fe (CX (Fe (CX (fP ?_))))
      exact Vx.err H _
     ·rw[if_neg hm]at hR
      refine AO (DX O (Bj (AO (wo ?_))))
      refine iC ?_
      refine xU ?_
      refine CY O (Az O (atG (enc:=(Value.int .u64)) (z:=0) (l:=zz) H 0 O O O O Y Y underlying55 underlying26 Ig O ?_))
      clear H;intro _ _ _ H;simp only[Bv,Nat.reduceAdd]at H
      refine En O (Au (AP (Aw (CY O (Az O (AL (aaQ (j:=mm) O O O Y underlying55 GV) (Di O underlying55 (tV ?_))))))))
      refine Ec (fun z f W=>∃(k:Nat) (A3:Option Addr) (c3:Nat),k≤mm∧z=mm-k∧Im.O8 (t.take k)=true∧f 0= .slice (some ⟨b,o2,none⟩) t.length (c-2)∧f 1= .int .i64 N∧f 6= .slice A3 (out.length+zz+k) c3∧f 8= .int .u64 mm∧f 78= .slice (some ⟨b,o2,none⟩) mm (c-2)∧f 79= .int .i64 mm∧f 80= .int .i64 k∧Heap w [] [Dw 1 (.slice A3 (out.length+zz+k) c3) (out.length+zz+k) ((out++List.replicate zz 0++t.take k).map (Value.int .u64)) 26] W) mm ⟨0,_,_,Y,rfl,rfl,rfl,rfl,rfl,rfl,rfl,rfl,rfl,by simpa using H⟩ ?_
      clear H
      rintro z f W ⟨k,A3,c3,hk,rfl,hnz,f0,f1,f6,f8,f78,f79,f80,H⟩
      obtain⟨f,rfl⟩:=lv7 f0 f1 f6 f8 f78 f79 f80
      clear f0 f1 f6 f8 f78 f79 f80
      by_cases hkm:k<mm
      ·obtain⟨x,hx⟩:∃x,t[k]? =some x:=⟨_,Ar Y⟩
       have hcx:=hr2 k x hx
       by_cases hx0:x=0
       ·subst hx0
        rw[if_neg (ajW t k mm hx hkm)]at hR
        subst hR
        refine ak ?_
        refine AL (Gp O O O Y underlying55 GV) (AL (Hq H (i:=o2+k) O hcx J GR) (jk ?_))
        refine AL (Fv O O Y) (ql ?_)
        refine En O (oL ?_)
        refine Fe (CX (CX (Fe (CX (Fe (CX (Fe (CX (fP ?_)))))))))
        exact Vx.err H _
       ·refine ak ?_
        refine AL (Gp O O O Y underlying55 GV) (AL (Hq H (i:=o2+k) O hcx J GR) (jk ?_))
        refine mD ?_
        refine DR (CY O (Az O (O7 (enc:=(Value.int .u64)) H 0 O O O O O O O Y underlying55 Ig O ?_)))
        clear H;intro _ An cn _ H;simp only[Bv,Nat.reduceAdd]at H
        refine En O (vG ?_)
        rw[DI,aaW hx]at H
        refine⟨_,_,?_,rfl,k+1,_,_,Y,rfl,agc t k x hx hnz hx0,rfl,rfl,rfl,rfl,rfl,rfl,rfl,H⟩
        omega
      ·obtain rfl:k=mm:=Y
       rw[if_pos hnz]at hR
       obtain⟨o3,ho3,hr3⟩:=Xu (c:=c-2) hr2 k Y Y
       have hol:(out++List.replicate zz 0++t.take k).length=out.length+zz+k:=by
        simp only[Cm,CV,Dy];omega
       refine je ?_
       refine DR (CY O (Az O (AL (adX (i:=k) (o2:=o3) (l2:=(t.drop k).length) (c2:=c-2-k) O O O Y ho3 (by rw[CZ]) O underlying55 GV) (En O (AA (Dh (CU ?_)))))))
       rw[←hol]at H
       refine⟨fu,_,?_,rfl,t.drop k,out++List.replicate zz 0++t.take k,o3,c-2-k,A3,c3,Y,Y,hR,rfl,by rw[CZ];omega,Y,by rw[CZ];omega,hUt.drop k,hr3,rfl,?_,H⟩
       ·omega
       ·rw[hol];rfl
 ·rw[amS fu wl N out Y]at hR
  by_cases hw:wl.length>0
  ·rw[if_pos hw]at hR
   subst hR
   refine tX ?_
   refine Az O (kH ?_)
   refine tX ?_
   refine AL (Jl O O Y) (ql ?_)
   refine En O (oL ?_)
   refine fP ?_
   exact Vx.err H _
  ·rw[if_neg hw]at hR
   subst hR
   refine tX ?_
   refine Az O (kH ?_)
   refine tX ?_
   refine xU ?_
   refine CY O (xO ?_)
   exact⟨A2,c2,rfl,H⟩
end
end
section
section
open Go.RowKit
theorem Reads.sees{α:Type}{enc:α→Value}{W:World}{b o:Nat}{xs:List α}(h:Reads enc W b o xs):Gm enc W [] (some ⟨b,o,none⟩) xs:=fun _=>⟨b,o,rfl,J,h⟩
theorem Gives.vec{k:IntKind}{T:TypeId}{xs:List Int}{w w':World}{e:Ending}(h:Gives k T xs w e w')(h0:0<xs.length):
 ∃b c,e= .returned (.slice (some ⟨b,0,none⟩) xs.length c)∧xs.length≤c∧c≤maxLen∧Heap w [] [vec (Value.int k) b xs T] w':=by
 obtain⟨A,c,rfl,H⟩:=h
 obtain⟨b,c2,he,h1,h2,H2⟩:=ai' H h0
 exact⟨b,c2,congrArg _ he,h1,h2,H2⟩
def arI(R:List Int×Int)(w:World)(e:Ending)(w':World):Prop:=
 (R.2≠0∧e= .returned (.tuple #[.pointer none,.int .i64 R.2])∧Only [] w w')∨
 (R.2=0∧∃g,e= .returned (.tuple #[ptr g.p,.int .i64 0])∧Wi g (R.1.length/8)∧Heap w [] (Dz g (Nv.load R.1 (R.1.length/8))) w')
theorem ahz(xs:List Int)(hU:By.Nz xs)(h:¬(xs.length<24∨xs.length%8≠0)):
 ∃(W:List Int) (x0 x1 xl:Int),By.words xs=W∧W.length=xs.length/8∧Im.U W∧W[0]? =some x0∧W[1]? =some x1∧W[W.length-1]? =some xl∧
  Im.load xs=(if x0≠13905993476890996 then([],24)else if xl≠Im.sum (W.take (W.length-1))then([],25)else if x1>131072∨x1%8≠0 then([],26)else Im.read (x1.toNat+1) ((W.take (W.length-1)).drop 2) x1 []):=by
 have hl:(By.words xs).length=xs.length/8:=by rw[By.Tq];omega
 have h0:(By.words xs)[0]? =some ((By.words xs).getD 0 0):=by rw[Ba,Ar Y];rfl
 have h1:(By.words xs)[1]? =some ((By.words xs).getD 1 0):=by rw[Ba,Ar Y];rfl
 have h2:(By.words xs)[(By.words xs).length-1]? =some ((By.words xs).getD ((By.words xs).length-1) 0):=by rw[Ba,Ar Y];rfl
 refine⟨By.words xs,_,_,_,rfl,hl,By.words_wf xs hU,h0,h1,h2,?_⟩
 unfold Im.load
 rw[if_neg h]
 rfl
theorem hfin{w W W':World}{L:List Fp}{g:Geo}{d:Nv.D}(H:Heap w [] L W)(H':Heap W [] (Dz g d) W'):Heap w [] (Dz g d) W':=(H.more H').drops
theorem auN(A:Option Addr)(n c:Nat)(xs:List Int)(w:World)(hz:Gm (Value.int .u8) w [] A xs)(hl:xs.length=n)(hU:By.Nz xs)(hn:n≤1000000):
 Calls prog 9 [.slice A n c].toArray w (arI (Im.load xs) w):=by
 have H:=Heap.nil w
 by_cases hbad:xs.length<24∨xs.length%8≠0
 ·have e:Im.load xs=([],31):=by unfold Im.load;rw[if_pos hbad]
  rw[e]
  by_cases h8:n%8=0
  ·refine rV ?_
   refine AL (Dc O O Y) (BL O (AX 13 O (UN O) (AX 13 O (Ey O underlying39) (AX 13 O (Df O O Y) (Dp O O (ql ?_))))))
   refine EX O (oL ?_)
   refine dM ?_
   exact .inl ⟨by decide,rfl,H.only⟩
  ·refine rV ?_
   refine AL (Hl O O Y) (BL O (Cc 13 O O (Cc 13 O O (Cc 13 O O (ED O O (ql ?_))))))
   refine EX O (oL ?_)
   refine dM ?_
   exact .inl ⟨by decide,rfl,H.only⟩
 ·obtain⟨W0,x0,x1,xl,hW,hWl,hWU,hx0,hx1,hxl,hld⟩:=ahz xs hU hbad
  have ayf:=hWU x1 (A8 hx1)
  have hsv:=Im.ajK (R:=(Im.load xs).1) hU
  have hWd:=fun w hz=>(ale A n c xs w hz hl hU hn).mono (fun e w' h=>h.vec (by rw[hW];omega))
  rw[hW]at hWd
  generalize hR:Im.load xs=R at*
  have hq2:(W0.take (W0.length-1)).length=W0.length-1:=by rw[Dy];omega
  refine rV ?_
  refine AL (Dc O O Y) (BL O (AX 13 O (UN O) (AX 13 O (Ey O underlying39) (AX 13 O (CO O O Y) (fE ?_)))))
  refine Aw (CY O (s_call O (hWd _ (hz.later H.only J)) (axK O) ?_))
  rintro e W1 ⟨b,cb,rfl,hcb,hcm,H'⟩
  refine⟨_,rfl,?_⟩
  have H:=H.more (A:=[_]) H';clear H';simp only[Bv]at H
  refine En O (Au (AP ?_))
  unfold maxLen at hcm
  have hsum:=Im.Sr (W0.take (W0.length-1))
  by_cases c0:x0=13905993476890996
  ·rw[if_neg (by simpa using c0)]at hld
   subst c0
   by_cases c1:xl=Im.sum (W0.take (W0.length-1))
   ·rw[if_neg (by simpa using c1)]at hld
    by_cases c2:x1>131072∨x1%8≠0
    ·rw[if_pos c2]at hld
     subst hld
     by_cases c3:x1>131072
     ·refine ay ?_
      clear H;intro _ H
      refine qB ?_
      refine BI H O (YF _ _ _ (W0.take (W0.length-1)) _ (((by simpa using H.reads 0 O 0 (W0.length-1):Reads (Value.int .u64) _ b 0 (W0.take (W0.length-1)))).sees) hq2 (hWU.take _) Y) (aj1 O) fun W1 H=>iC ?_
      refine uF ?_
      refine Aw (CY O (AL (FC (i:=1) O O Y Y underlying55 GV) (AL (Nq H 0 O O hx1 GR) (AL (Jl O O Y) (BL O (Cc 47 O O (Cc 47 O O (Cc 47 O O (Cc 47 O O (Cc 47 O O (ED O O (uf ?_))))))))))))
      exact .inl ⟨by decide,rfl,H.only⟩
     ·refine ay ?_
      clear H;intro _ H
      refine qB ?_
      refine BI H O (YF _ _ _ (W0.take (W0.length-1)) _ (((by simpa using H.reads 0 O 0 (W0.length-1):Reads (Value.int .u64) _ b 0 (W0.take (W0.length-1)))).sees) hq2 (hWU.take _) Y) (aj1 O) fun W1 H=>iC ?_
      refine uF ?_
      refine Aw (fO ?_)
      refine AX 47 O (Hl O O Y) (Dp O O (uf ?_))
      exact .inl ⟨by decide,rfl,H.only⟩
    ·rw[if_neg c2]at hld
     obtain⟨N,rfl⟩:=Bo ayf.1
     rw[Bz]at hld
     obtain⟨o2,ho2,hr2⟩:∃o2,(if cb=2 then(⟨b,0,none⟩:Addr)else⟨b,0+2*1,none⟩)=⟨b,o2,none⟩∧∀W,Reads (Value.int .u64) W b 0 (W0.take (W0.length-1))→Reads (Value.int .u64) W b o2 ((W0.take (W0.length-1)).drop 2):=by
      refine⟨2,by rw[if_neg Y],fun W hr=>?_⟩
      obtain⟨o2,h1,h2⟩:=Xu (c:=cb) hr 2 Y Y
      rw[if_neg Y]at h1
      injection h1 with _ h1
      rw[←h1]at h2
      simpa using h2
     have hdl:((W0.take (W0.length-1)).drop 2).length=W0.length-1-2:=by rw[CZ,hq2]
     have hRd:=fun W hr=>att b o2 (cb-2) N ((W0.take (W0.length-1)).drop 2) W hr Y Y ((hWU.take _).drop _) Y
     rw[←hld,hdl]at hRd
     clear hld
     by_cases c4:R.2=0
     ·obtain⟨hs1,hs2,hs3,hs4⟩:=hsv (Prod.ext rfl c4)
      have hL:∀A c W,Gm (Value.int .u64) W [] A R.1→Calls prog 46 [.slice A R.1.length c].toArray W fun e w'=>∃g,e= .returned (ptr g.p)∧Wi g (R.1.length/8)∧Heap W [] (Dz g (Nv.load R.1 (R.1.length/8))) w':=by
       intro A c W hz
       have h:=avp A R.1.length c R.1 W hz rfl Y
       rw[show(R.1.length+7)/8=R.1.length/8 by omega,show 8*(R.1.length/8)-R.1.length=0 by omega,NI,Du]at h
       exact h
      refine ay ?_
      clear H;intro _ H
      refine qB ?_
      refine BI H O (YF _ _ _ (W0.take (W0.length-1)) _ (((by simpa using H.reads 0 O 0 (W0.length-1):Reads (Value.int .u64) _ b 0 (W0.take (W0.length-1)))).sees) hq2 (hWU.take _) Y) (aj1 O) fun W1 H=>iC ?_
      refine uF ?_
      refine Aw (fO ?_)
      refine AX 47 O (Dc O O Y) (Dp O O (uQ ?_))
      refine AP ?_
      refine Gu mixed ?_;replace H:=H.drew
      refine eu ?_
      rintro e W1 ⟨A',c',rfl,H'⟩
      refine⟨_,rfl,?_⟩
      have H:=H.more (A:=[_]) H';clear H';simp only[Bv]at H
      refine aj ?_
      refine iy ?_
      refine gy ?_
      refine Aw (CY O (s_call O (hL _ _ _ (H.KJ 0 O)) (axx O) ?_))
      rintro e W1 ⟨g,rfl,hg,H'⟩
      refine⟨_,rfl,?_⟩
      skip
      refine qZ ?_
      exact .inr ⟨c4,g,rfl,hg,hfin H H'⟩
     ·refine ay ?_
      clear H;intro _ H
      refine qB ?_
      refine BI H O (YF _ _ _ (W0.take (W0.length-1)) _ (((by simpa using H.reads 0 O 0 (W0.length-1):Reads (Value.int .u64) _ b 0 (W0.take (W0.length-1)))).sees) hq2 (hWU.take _) Y) (aj1 O) fun W1 H=>iC ?_
      refine uF ?_
      refine Aw (fO ?_)
      refine AX 47 O (Dc O O Y) (Dp O O (uQ ?_))
      refine AP ?_
      refine Gu mixed ?_;replace H:=H.drew
      refine eu ?_
      rintro e W1 ⟨A',c',rfl,H'⟩
      refine⟨_,rfl,?_⟩
      have H:=H.more (A:=[_]) H';clear H';simp only[Bv]at H
      refine aj ?_
      refine iy ?_
      refine fJ ?_
      refine AL (Hl O O Y) (ql ?_)
      refine Az O (EX O (oL ?_))
      refine dM ?_
      exact .inl ⟨c4,rfl,H.only⟩
   ·rw[if_pos (by simpa using c1)]at hld
    subst hld
    refine ay ?_
    clear H;intro _ H
    refine qB ?_
    refine BI H O (YF _ _ _ (W0.take (W0.length-1)) _ (((by simpa using H.reads 0 O 0 (W0.length-1):Reads (Value.int .u64) _ b 0 (W0.take (W0.length-1)))).sees) hq2 (hWU.take _) Y) (aj1 O) fun W1 H=>iC ?_
    refine AL (Hl O O Y) (uf ?_)
    exact .inl ⟨by decide,rfl,H.only⟩
  ·rw[if_pos (by simpa using c0)]at hld
   subst hld
   refine ay ?_
   clear H;intro _ H
   refine AO (AP (E8 (Aw (CY O (AL (FC (i:=0) O O Y Y underlying55 GV) (AL (Nq H 0 O O hx0 GR) (AL (Hl O O Y) (uf ?_))))))))
   exact .inl ⟨by decide,rfl,H.only⟩
end
end
end Go.Proofs.YtppilhpcmkekbaaGreat
