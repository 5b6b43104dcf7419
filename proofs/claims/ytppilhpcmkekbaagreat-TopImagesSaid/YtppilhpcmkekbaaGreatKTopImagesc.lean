/- Parts of the proof. -/
import Derived.Test.YtppilhpcmkekbaaGreatKTopImagesb
set_option linter.unusedSimpArgs false
set_option linter.unusedVariables false
set_option linter.unusedSectionVars false
set_option maxRecDepth 100000
set_option maxHeartbeats 16000000
namespace Go.Proofs.YtppilhpcmkekbaaGreat
open Go.Proofs.Tryz
section
namespace Gr
theorem QB:∀(n:Nat) (l:List Int),l.Nodup→(∀x∈l,0≤x∧x<(n:Int))→l.length≤n
 |0,l,_,h=>by
  cases l with
  |nil=>simp
  |cons a t=>have:=h a J;omega
 |n+1,l,hd,h=>by
  by_cases hm:(n:Int)∈l
  ·have h1:=QB n (l.erase (n:Int)) (hd.erase _) (fun x hx=>by
    have h2:=h x (U1 hx)
    have h3:x≠(n:Int):=fun e=>(Sv hd) (e▸hx)
    omega)
   have h4:=NQ hm
   have h5:0<l.length:=Ug hm
   omega
  ·have h1:=QB n l hd (fun x hx=>by
    have h2:=h x hx
    have h3:x≠(n:Int):=fun e=>hm (e▸hx)
    omega)
   omega
theorem YG(pt:Int→List Int)(fr:List Int):∀k,(∀c∈fr,0≤c→c∈(st pt ⟨[],fr⟩ k).out∨c∈(st pt ⟨[],fr⟩ k).q)∧(∀x∈(st pt ⟨[],fr⟩ k).out,∀y∈pt x,0≤y→y∈(st pt ⟨[],fr⟩ k).out∨y∈(st pt ⟨[],fr⟩ k).q)
 |0=>⟨fun c hc _=> .inr hc,fun x hx=>by cases hx⟩
 |k+1=>by
  obtain⟨h1,h2⟩:=YG pt fr k
  rw[st]
  generalize st pt ⟨[],fr⟩ k=s at*
  unfold next
  cases hq:s.q with
  |nil=>rw[hq]at h1 h2;simp only[hq];exact⟨h1,h2⟩
  |cons c q=>
   rw[hq]at h1 h2
   simp only[]
   have key:∀y:Int,0≤y→y∈s.out∨y∈c::q→y∈(if c<0∨c∈s.out then(⟨s.out,q⟩:St)else⟨s.out++ [c],q++pt c⟩).out∨y∈(if c<0∨c∈s.out then(⟨s.out,q⟩:St)else⟨s.out++ [c],q++pt c⟩).q:=by
    intro y hy h
    split
    ·rename_i hc
     rcases h with h|h
     ·exact .inl h
     ·rcases Dq.1 h with rfl|h
      ·rcases hc with hc|hc
       ·omega
       ·exact .inl hc
      ·exact .inr h
    ·rcases h with h|h
     ·exact .inl (BQ _ h)
     ·rcases Dq.1 h with rfl|h
      ·exact .inl (C9 _ J)
      ·exact .inr (BQ _ h)
   refine⟨fun x hx h0=>key x h0 (h1 x hx h0),fun x hx y hy h0=>?_⟩
   by_cases hxo:x∈s.out
   ·exact key y h0 (h2 x hxo y hy h0)
   ·split at hx
    ·exact absurd hx hxo
    ·rename_i hc
     rcases BJ.1 hx with h|h
     ·exact absurd h hxo
     ·obtain rfl:=Bf.1 h
      rw[if_neg hc]
      exact .inr (C9 _ hy)
def JO(pt:Int→List Int)(fr out:List Int):Prop:=∃k,st pt ⟨[],fr⟩ k=⟨out,[]⟩
theorem JO.same{pt:Int→List Int}{fr a b:List Int}(ha:JO pt fr a)(hb:JO pt fr b):a=b:=by
 obtain⟨i,hi⟩:=ha
 obtain⟨j,hj⟩:=hb
 have:=ao5 (pt:=pt) (s:=⟨[],fr⟩) (a:=i) (b:=j) (by rw[hi]) (by rw[hj])
 rw[hi,hj]at this
 exact this
theorem JO.from{pt:Int→List Int}{fr out:List Int}(h:JO pt fr out):∀c∈fr,0≤c→c∈out:=by
 obtain⟨k,hk⟩:=h
 have:=(YG pt fr k).1
 rw[hk]at this
 intro c hc h0
 rcases this c hc h0 with h|h
 ·exact h
 ·cases h
theorem JO.closed{pt:Int→List Int}{fr out:List Int}(h:JO pt fr out):∀x∈out,∀y∈pt x,0≤y→y∈out:=by
 obtain⟨k,hk⟩:=h
 have:=(YG pt fr k).2
 rw[hk]at this
 intro x hx y hy h0
 rcases this x hx y hy h0 with h|h
 ·exact h
 ·cases h
theorem JO.nodup{pt:Int→List Int}{fr out:List Int}(h:JO pt fr out):out.Nodup:=by
 obtain⟨k,hk⟩:=h
 have:=agk pt ⟨[],fr⟩ J k
 rw[hk]at this;exact this
theorem JO.pos{pt:Int→List Int}{fr out:List Int}(h:JO pt fr out):∀x∈out,0≤x:=by
 obtain⟨k,hk⟩:=h
 have:=(akQ pt ⟨[],fr⟩ (fun _=>True) (fun _ _ _=>trivial) (fun x hx=>by cases hx) (fun _ _ _ _ _ _=>trivial) k).2
 rw[hk]at this
 exact fun x hx=>(this x hx).1
theorem JO.map{pt pt':Int→List Int}{f:Int→Int}{fr out:List Int}(h:JO pt fr out)(hn:∀x,x<0→f x<0)(hp:∀x∈out,0≤f x)(hinj:∀x∈out,∀y∈out,f x=f y→x=y)(hpt:∀x∈out,pt' (f x)=(pt x).map f):JO pt' (fr.map f) (out.map f):=by
 have hc:=h.closed
 have hf:=h.from
 obtain⟨k,hk⟩:=h
 refine⟨k,?_⟩
 have:=ak' pt pt' f ⟨[],fr⟩ (fun x=>x∈out) (fun x hx h0=>hf x hx h0) (fun x hx=>by cases hx) (fun x _ hx y hy h0=>hc x hx y hy h0) hn (fun x _ hx=>hp x hx) (fun x y _ _ hx hy e=>hinj x hx y hy e) (fun x _ hx=>hpt x hx) k
 rw[hk]at this
 exact this
def J3:List Int→Int→Int
 | [],_=> -1
 |a::l,x=>if a=x then 0 else if J3 l x<0 then-1 else J3 l x+1
theorem Xo:∀(l:List Int) (x:Int),x∉l→J3 l x= -1
 | [],_,_=>rfl
 |a::l,x,h=>by
  have h1:a≠x:=fun e=>h (by simp[e])
  have h2:=Xo l x (fun hx=>h (by simp[hx]))
  rw[J3,if_neg h1,h2,if_pos Y]
theorem SG:∀(l:List Int) (i:Nat) (hi:i<l.length),l.Nodup→J3 l l[i]=(i:Int)
 |a::l,0,_,_=>by simp[J3]
 |a::l,i+1,hi,hd=>by
  have hi':i<l.length:=by simpa using hi
  have h2:=SG l i hi' (GH.1 hd).2
  have h1:a≠l[i]:=fun e=>(GH.1 hd).1 (e▸FT hi')
  show J3 (a::l) l[i]=_
  rw[J3,if_neg h1,h2,if_neg Y]
  omega
theorem Ui(l:List Int)(x:Int)(hd:l.Nodup)(h:x∈l):∃i:Nat,i<l.length∧l[i]? =some x∧J3 l x=(i:Int):=by
 obtain⟨i,hi,rfl⟩:=DY.1 h
 exact⟨i,hi,Ar hi,SG l i hi hd⟩
theorem aoy(l:List Int)(hd:l.Nodup):l.map (J3 l)=(List.range l.length).map (fun i:Nat=>(i:Int)):=by
 apply FU J
 intro i h1 h2
 have hi:i<l.length:=by simpa using h1
 simp[SG l i hi hd]
theorem JO.canon{pt pt':Int→List Int}{fr out:List Int}(h:JO pt fr out)(hpt:∀i (hi:i<out.length),pt' (i:Int)=(pt out[i]).map (J3 out)):JO pt' (fr.map (J3 out)) ((List.range out.length).map (fun i:Nat=>(i:Int))):=by
 have hd:=h.nodup
 rw[←aoy out hd]
 refine h.map (fun x hx=>?_) (fun x hx=>?_) (fun x hx y hy e=>?_) (fun x hx=>?_)
 ·have:x∉out:=fun hm=>by have:=h.pos x hm;omega
  rw[Xo out x this];omega
 ·obtain⟨i,_,_,e⟩:=Ui out x hd hx
  rw[e];omega
 ·obtain⟨i,_,ei,e1⟩:=Ui out x hd hx
  obtain⟨j,_,ej,e2⟩:=Ui out y hd hy
  have:i=j:=Y
  subst this
  rw[ei]at ej;exact P7 ej
 ·obtain⟨i,hi,ei,e1⟩:=Ui out x hd hx
  rw[e1,hpt i hi]
  have:out[i]=x:=by rw[Ar hi]at ei;exact P7 ei
  rw[this]
end Gr
end
section
namespace Gr
inductive Reach (pt:Int→List Int) (fr:List Int):Int→Prop
 |base {c:Int}:c∈fr→0≤c→Reach pt fr c
 |step {x y:Int}:Reach pt fr x→y∈pt x→0≤y→Reach pt fr y
theorem Reach.pos{pt:Int→List Int}{fr:List Int}{x:Int}(h:Reach pt fr x):0≤x:=by
 cases h<;>assumption
theorem JO.mem{pt:Int→List Int}{fr out:List Int}(h:JO pt fr out)(x:Int):x∈out↔Reach pt fr x:=by
 constructor
 ·intro hx
  obtain⟨k,hk⟩:=h
  have:=(akQ pt ⟨[],fr⟩ (fun y=>Reach pt fr y) (fun y hy h0=> .base hy h0) (fun y hy=>by cases hy) (fun y _ hy z hz h0=> .step hy hz h0) k).2
  rw[hk]at this
  exact(this x hx).2
 ·intro hx
  induction hx with
  |base hc h0=>exact h.from _ hc h0
  |step _ hy h0 ih=>exact h.closed _ ih _ hy h0
def sh(n:Int)(x:Int):Int:=if x<0 then x else x+n
end Gr
end
section
namespace Gr
theorem Reach.trans{pt:Int→List Int}{fr:List Int}{x z:Int}(h:Reach pt fr x)(h2:Reach pt (pt x) z):Reach pt fr z:=by
 induction h2 with
 |base hc h0=>exact .step h hc h0
 |step _ hy h0 ih=>exact .step ih hy h0
def Ch(pt:Int→List Int):List Int→Prop
 | []=>True
 | [_]=>True
 |p::h::t=>h∈pt p∧Ch pt (h::t)
theorem Ch.reach{pt:Int→List Int}:∀(t:List Int) (h:Int),Ch pt (h::t)→(∀z∈t,0≤z)→∀z∈t,Reach pt (pt h) z
 | [],_,_,_,z,hz=>by cases hz
 |a::t,h,hc,h0,z,hz=>by
  obtain⟨h1,h2⟩:=hc
  have ha:Reach pt (pt h) a:= .base h1 (h0 a J)
  rcases Dq.1 hz with rfl|hz
  ·exact ha
  ·exact ha.trans (Ch.reach t a h2 (fun y hy=>h0 y (by simp[hy])) z hz)
end Gr
end
section
namespace Gr
theorem UJ{pt:Int→List Int}{A B:List Int}(h:A.Perm B)(y:Int):(flat pt A).count y=(flat pt B).count y:=by
 induction h with
 |nil=>rfl
 |cons x _ ih=>simp only[flat,FW,Gq]at ih⊢;omega
 |swap x z l=>simp only[flat,FW,Gq];omega
 |trans _ _ a b=>omega
theorem P5(pt:Int→List Int)(a:Int)(L:List Int)(y:Int):(flat pt (a::L)).count y=(pt a).count y+(flat pt L).count y:=by
 simp only[flat,FW,Gq]
theorem VI{pt:Int→List Int}:∀(X L:List Int),X.Nodup→(∀x∈X,x∈L)→∀y,(flat pt X).count y≤(flat pt L).count y∧(∀a∈L,a∉X→y∈pt a→(flat pt X).count y<(flat pt L).count y)
 | [],L,_,_,y=>by
  refine⟨by simp[flat],fun a ha _ hy=>?_⟩
  have h1:=UJ (pt:=pt) (Vt ha) y
  have h2:=P5 pt a (L.erase a) y
  have h3:0<(pt a).count y:=Xj.2 hy
  have h4:(flat pt []).count y=0:=rfl
  omega
 |x::X,L,hd,hs,y=>by
  have hx:=hs x J
  have h1:=UJ (pt:=pt) (Vt hx) y
  have h2:=P5 pt x (L.erase x) y
  have h3:=P5 pt x X y
  obtain⟨i1,i2⟩:=VI (pt:=pt) X (L.erase x) (GH.1 hd).2 (fun z hz=>by
   have hne:z≠x:=fun e=>(GH.1 hd).1 (e▸hz)
   exact(PO hne).2 (hs z (by simp[hz]))) y
  refine⟨Y,fun a ha hn hy=>?_⟩
  have hne:a≠x:=fun e=>hn (by simp[e])
  have:=i2 a ((PO hne).2 ha) (fun h=>hn (by simp[h])) hy
  omega
structure KI (pt:Int→List Int) (L:List Int) (n:Nat) (D inn op:List Int):Prop where
 len:inn.length=n
 val:∀y:Nat,y<n→inn.getD y 0=((flat pt L).count (y:Int):Int)-(D.count (y:Int):Int)
 nd:op.Nodup
 mem:∀y,y∈op↔y∈L∧(flat pt L).count y=D.count y
theorem KI.neg{pt:Int→List Int}{L:List Int}{n:Nat}{D inn op:List Int}(h:KI pt L n D inn op)(hL:∀x∈L,0≤x)(p:Int)(hp:p<0):KI pt L n (D++ [p]) inn op:=by
 have e:∀y:Int,0≤y→(D++ [p]).count y=D.count y:=fun y hy=>by
  rw[Gq,PZ]
  have:¬(p==y)=true:=by simp;omega
  rw[if_neg this];omega
 refine⟨h.len,fun y hy=>by rw[e _ Y];exact h.val y hy,h.nd,fun y=>?_⟩
 rw[h.mem y]
 constructor
 ·rintro⟨h1,h2⟩;exact⟨h1,by rw[e y (hL y h1)];exact h2⟩
 ·rintro⟨h1,h2⟩;exact⟨h1,by rw[e y (hL y h1)]at h2;exact h2⟩
theorem KI.step{pt:Int→List Int}{L:List Int}{n:Nat}{D inn op:List Int}(h:KI pt L n D inn op)(p:Nat)(hpn:p<n)(hp:(p:Int)∈L)(hle:D.count (p:Int)<(flat pt L).count (p:Int)):
 KI pt L n (D++ [(p:Int)]) (inn.set p (inn.getD p 0-1)) (if inn.getD p 0-1=0 then op++ [(p:Int)]else op):=by
 have hv:=h.val p hpn
 have e1:(D++ [(p:Int)]).count (p:Int)=D.count (p:Int)+1:=by rw[Gq,PZ];simp
 have e2:∀y:Int,y≠(p:Int)→(D++ [(p:Int)]).count y=D.count y:=fun y hy=>by
  rw[Gq,PZ]
  have:¬((p:Int)==y)=true:=by simp;omega
  rw[if_neg this];omega
 have hnot:(p:Int)∉op:=fun hm=>by
  have:=((h.mem _).1 hm).2
  omega
 refine⟨by rw[He];exact h.len,fun y hy=>?_,?_,fun y=>?_⟩
 ·by_cases hyp:y=p
  ·subst hyp
   rw[e1]
   simp only[List.getD,JI (show y<inn.length by rw[h.len];exact hy),TK]
   simp only[List.getD]at hv
   omega
  ·rw[e2 y Y]
   have:(inn.set p (inn.getD p 0-1)).getD y 0=inn.getD y 0:=by
    simp only[List.getD];rw[Gw Y]
   rw[this];exact h.val y hy
 ·split
  ·refine CS.2 ⟨h.nd,J,fun a ha b hb e=>?_⟩
   obtain rfl:=Bf.1 hb
   exact hnot (e▸ha)
  ·exact h.nd
 ·by_cases hyp:y=(p:Int)
  ·subst hyp
   split
   ·rename_i hz
    constructor
    ·intro _;exact⟨hp,by rw[e1];omega⟩
    ·intro _;exact C9 _ J
   ·rename_i hz
    constructor
    ·intro hm;exact absurd hm hnot
    ·rintro⟨_,h2⟩
     rw[e1]at h2
     exfalso;apply hz;omega
  ·have:y∈(if inn.getD p 0-1=0 then op++ [(p:Int)]else op)↔y∈op:=by
    split
    ·rw[BJ,Bf]
     constructor
     ·rintro(h1|h1)
      ·exact h1
      ·exact absurd h1 hyp
     ·exact .inl
    ·rfl
   rw[this,e2 y hyp]
   exact h.mem y
end Gr
end
section
namespace Gr
def kd(s:List Int×List Int)(p:Int):List Int×List Int:=
 if p<0 then s else(s.1.set p.toNat (s.1.getD p.toNat 0-1),if s.1.getD p.toNat 0-1=0 then s.2++ [p]else s.2)
structure KS (pt:Int→List Int) (L:List Int) (n:Nat) (D:List Int) (s:List Int×List Int):Prop where
 ki:KI pt L n D s.1 s.2
 ac:∀y∈s.2,Acc (fun a b=>a∈L∧b∈pt a) y
variable{pt:Int→List Int}{L:List Int}{n:Nat}
theorem KS.one(hL:∀x∈L,0≤x∧x<(n:Int))(hcl:∀x∈L,∀y∈pt x,0≤y→y∈L){D:List Int}{s:List Int×List Int}(h:KS pt L n D s)(X cs:List Int)(p:Int)(hX:X.Nodup)(hXo:∀x∈X,x∈s.2)(hD:flat pt X=D++p::cs):KS pt L n (D++ [p]) (kd s p)∧∀x∈X,x∈(kd s p).2:=by
 unfold kd
 by_cases hp:p<0
 ·rw[if_pos hp]
  exact⟨⟨h.ki.neg (fun x hx=>(hL x hx).1) p hp,h.ac⟩,hXo⟩
 ·rw[if_neg hp]
  obtain⟨q,rfl⟩:=Bo (show 0≤p by omega)
  rw[Bz]
  have hXL:∀x∈X,x∈L:=fun x hx=>((h.ki.mem x).1 (hXo x hx)).1
  have hmem:(q:Int)∈flat pt X:=by rw[hD];exact C9 _ J
  obtain⟨x,hx,hqx⟩:=TI.1 hmem
  have hqL:(q:Int)∈L:=hcl x (hXL x hx) _ hqx Y
  have hqn:q<n:=by have:=(hL _ hqL).2;omega
  have hs:=VI (pt:=pt) X L hX hXL (q:Int)
  have hc:(flat pt X).count (q:Int)=D.count (q:Int)+(1+cs.count (q:Int)):=by
   rw[hD,Gq,List.count_cons];simp;omega
  have hlt:D.count (q:Int)<(flat pt L).count (q:Int):=Y
  have hk:=h.ki.step q hqn hqL hlt
  have hv:=h.ki.val q hqn
  refine⟨⟨hk,fun y hy=>?_⟩,fun x hx=>?_⟩
  ·simp only at hy
   split at hy
   ·rename_i hz
    rcases BJ.1 hy with hy|hy
    ·exact h.ac y hy
    ·obtain rfl:=Bf.1 hy
     refine⟨_,fun a ha=>?_⟩
     have haX:a∈X:=by
      apply II
      intro hn
      have:=hs.2 a ha.1 hn ha.2
      omega
     exact h.ac a (hXo a haX)
   ·exact h.ac y hy
  ·simp only
   split
   ·exact BQ _ (hXo x hx)
   ·exact hXo x hx
theorem KS.row(hL:∀x∈L,0≤x∧x<(n:Int))(hcl:∀x∈L,∀y∈pt x,0≤y→y∈L)(X:List Int)(hX:X.Nodup):∀(cs D:List Int) (s:List Int×List Int),KS pt L n D s→(∀x∈X,x∈s.2)→flat pt X=D++cs→KS pt L n (flat pt X) (cs.foldl kd s)∧∀x∈X,x∈(cs.foldl kd s).2
 | [],D,s,h,hXo,hD=>by rw[hD,Du];exact⟨h,hXo⟩
 |p::cs,D,s,h,hXo,hD=>by
  obtain⟨h1,h2⟩:=h.one hL hcl X cs p hX hXo hD
  exact KS.row hL hcl X hX cs (D++ [p]) (kd s p) h1 h2 (by rw[hD];simp)
end Gr
end
section
namespace Gr
abbrev Nodes:=List (List Int×List Int)
def ptr(ns:Nodes)(x:Int):List Int:=if x<0 then []else(ns.getD x.toNat ([],[])).1
def dat(ns:Nodes)(x:Int):List Int:=if x<0 then []else(ns.getD x.toNat ([],[])).2
theorem ael(ns:Nodes)(i:Nat):ptr ns (i:Int)=(ns.getD i ([],[])).1:=by
 unfold ptr;rw[if_neg Y,Bz]
theorem agK(ns:Nodes)(i:Nat):dat ns (i:Int)=(ns.getD i ([],[])).2:=by
 unfold dat;rw[if_neg Y,Bz]
def Rt(roots:List Int)(ns:Nodes):Prop:=(∀r∈roots,-1≤r∧r<(ns.length:Int))∧∀x∈ns,∀p∈x.1,-1≤p∧p<(ns.length:Int)
theorem Rt.ptr{roots:List Int}{ns:Nodes}(h:Rt roots ns)(x:Int):∀y∈ptr ns x,-1≤y∧y<(ns.length:Int):=by
 intro y hy
 unfold Gr.ptr at hy
 split at hy
 ·cases hy
 ·simp only[List.getD]at hy
  cases e:ns[x.toNat]? with
  |none=>rw[e]at hy;cases hy
  |some v=>rw[e]at hy;exact h.2 v (A8 e) y hy
theorem Rt.ord{roots:List Int}{ns:Nodes}(h:Rt roots ns){o:List Int}(ho:JO (Gr.ptr ns) roots o):∀x∈o,0≤x∧x<(ns.length:Int):=by
 obtain⟨k,hk⟩:=ho
 have:=(akQ (Gr.ptr ns) ⟨[],roots⟩ (fun x=>x<(ns.length:Int)) (fun x hx _=>(h.1 x hx).2) (fun x hx=>by cases hx) (fun x _ _ y hy _=>(h.ptr x y hy).2) k).2
 rw[hk]at this
 exact this
def abS(roots o:List Int):List Int:=roots.map (J3 o)
def Vf(ns:Nodes)(o:List Int):Nodes:=o.map fun x=>((ptr ns x).map (J3 o),dat ns x)
theorem aiX{f:Int→Int}:∀(l:List Int) (x:Int),(∀a∈l,f a=f x→a=x)→J3 (l.map f) (f x)=J3 l x
 | [],_,_=>rfl
 |a::l,x,h=>by
  have ih:=aiX l x (fun b hb=>h b (by simp[hb]))
  rw[Dx,J3,J3,ih]
  by_cases e:a=x
  ·rw[if_pos e,if_pos (by rw[e])]
  ·rw[if_neg e,if_neg (fun e2=>e (h a J e2))]
def rng(k:Nat):List Int:=(List.range k).map fun i:Nat=>(i:Int)
theorem ajA(k:Nat):(rng k).Nodup:=by
 unfold rng
 rw[QZ,RX]
 exact(QZ.1 List.nodup_range).imp fun h e=>h Y
theorem asQ(k i:Nat)(h:i<k):(rng k)[i]? =some (i:Int):=by
 unfold rng
 rw[BG,FD h];rfl
theorem an'(k:Nat)(x:Int)(h: -1≤x∧x<(k:Int)):J3 (rng k) x=x:=by
 by_cases h0:x<0
 ·rw[Xo]
  ·omega
  ·intro hm
   unfold rng at hm
   obtain⟨i,_,e⟩:=BX.1 hm
   omega
 ·obtain⟨i,rfl⟩:=Bo (show 0≤x by omega)
  have hi:i<(rng k).length:=by unfold rng;simp;omega
  have:=SG (rng k) i hi (ajA k)
  have e:(rng k)[i]=(i:Int):=by
   have:=asQ k i Y
   rw[Ar hi]at this
   exact P7 this
  rw[e]at this;exact this
theorem abR(l:List Int)(x:Int)(hd:l.Nodup): -1≤J3 l x∧J3 l x<(l.length:Int):=by
 by_cases h:x∈l
 ·obtain⟨i,hi,_,e⟩:=Ui l x hd h
  omega
 ·rw[Xo l x h];omega
theorem Zc{f:Int→Int}:∀l:List Int,(∀x∈l,f x=x)→l.map f=l
 | [],_=>rfl
 |a::l,h=>by rw[Dx,h a J,Zc l fun x hx=>h x (by simp[hx])]
end Gr
end
section
namespace Bm
open Go.RowKit
theorem apy{l:List Bool}{x:Int}(h:x∈elems l):0≤x∧x<l.length:=by
 have h2:x∈abG l 0 l.length l.length:=by
  rw[ahT l 0 _ _ (Bg _),amQ];exact h
 have:=ahN _ _ _ _ h2
 omega
theorem elem_iff{l:List Bool}{i:Nat}:(i:Int)∈elems l↔at_ l i=true:=by
 unfold elems upto
 constructor
 ·intro h
  obtain⟨j,hj,e⟩:=BX.1 h
  have:j=i:=Y
  subst this
  exact(Jw.1 hj).2
 ·intro h
  exact BX.2 ⟨i,Jw.2 ⟨H7.2 (ah2 h),h⟩,rfl⟩
end Bm
end
section
section
open Go.RowKit
theorem up8(n:Nat):Bt.up (n:Int) 8=(((n+7)/8:Nat):Int):=by
 by_cases h:n=0
 ·subst h;rfl
 ·unfold Bt.up;rw[if_neg Y];omega
theorem ag0{xs:List Int}(h:Ints .u8 xs):By.Nz xs:=fun b hb=>bounds_u8 (h b hb)
theorem ahM(A:Option Addr)(n cap:Nat)(xs:List Int)(B:Nat)(w:World)(hr:Gv w B A n (xs.map (Value.int .u8)))(hi:Ints .u8 xs)(hl:n≤1000000)(hB:B≤w.heap.size):
 Calls prog 43 #[.slice A n cap] w (Wu .u64 26 (By.words xs) w):=by
 obtain⟨i0,hi0,hz0,hz1,hz2⟩:=info_parts abX
 have hlen:xs.length=n:=by simpa using hr.1
 have HL:=Lib.hid hlen
 have HR:=Lib.hid hr
 have HI:=Lib.hid hi
 have U:=Lib.hid (up8 n)
 have hN:(n+7)/8≤200000:=Y
 have hN8:n≤8*((n+7)/8):=Y
 generalize hNe:(n+7)/8=N at*
 have hNe:=Lib.hid hNe
 clear hlen hr hi
 go_enter func43,Tryz.ntmps43
 go_wp2_with fail
 refine(adU _ _ _ Y Y Y Y).mono ?_
 rintro e w' ⟨rfl,rfl⟩
 rw[U.out]
 go_wp2_with (first|(at_make;refine wpList_make_full (P:=prog) _ rfl _ _ 55 rfl w.heap.size 26 i0 (.int .u64 0) 1 underlying55 hi0 hz0 hz1 .i64 .i64 _ _ N rfl rfl rfl rfl (by rw[hz2];omega) zZ (Bg _) ?_;intro w1 hown0 hg0))
 have hb0:Below w.heap.size w w1:=(Below.refl _ _).grown hg0 (Bg _) (by intro k hk;cases hk)
 rw[apK .u64 N,EH,Yl,←By.akv xs N]at hown0
 clear hg0
 go_loopw [12] (fun t wr=>∃j:Nat,j≤n∧t= .int .i64 j∧wr.ownsRow w.heap.size 26 1 (.slice (some ⟨w.heap.size,0,none⟩) N N) N ((By.fill xs N j).map (Value.int .u64))∧Below w.heap.size w wr) (fun t _=>n-(intOf t).toNat)
 case atStart=>exact⟨0,Y,rfl,hown0,hb0⟩
 case round=>
  clear hown0 hb0
  obtain⟨j,hj,rfl,hown,hbe⟩:=hrel
  by_cases hlt:j<n
  ·obtain⟨b,off,d,rfl,hbl,hd,hwd,hc0⟩:=HR.out.int HI.out hlt
   have hcell:=(hbe.cell (p:=⟨b,off+j,none⟩) Af).trans hc0
   have db:=bounds_u8 hwd
   have hq:j/8<N:=Y
   have hc:=hown.cellAt (j/8) Y
   have hf:=hown.frozenAt (j/8)
   rw[BG,By.an5 xs N j hq]at hc
   have hc:wr.cell? ⟨w.heap.size,j/8,none⟩=some (.int .u64 (By.low xs (8*(j/8)) (j%8))):=hc
   have hst:=By.agL xs (ag0 HI.out) (8*(j/8)) (j%8)
   have hor:=Lib.hid (By.aot (By.low xs (8*(j/8)) (j%8)) d (j%8) Y hst.1 hst.2 db.1 db.2)
   have hset:=(hown.stored (j/8) (.int .u64 (By.low xs (8*(j/8)) (j%8)+d*256^(j%8)))).1
   rw[←Gy,←By.akO xs N j d hd hq]at hset
   have hgr:=Lib.hid (fun u=>hbe.grown (hown.stored (j/8) u).2 hbe.size (by intro q hq;cases hq;exact Bg _))
   have hset:=Lib.hid hset
   clear hc0 hst hd hwd hown
   go_wp2_with fail
   go_roundw
   case rel=>exact⟨j+1,Y,by go_num,by rw[hor.out];exact hset.out,hgr.out _⟩
   case measure=>simp[intOf]<;>omega
  ·go_wp2_with fail
   go_ret
   obtain rfl:j=n:=Y
   have hw:By.fill xs N j=By.words xs:=by
    rw[←hNe.out,←HL.out];exact By.alP xs _ (Bg _)
   exact Wu.mk _ rfl N (by rw[By.Tq,HL.out];exact hNe.out) (by rw[←hw];exact hown) hbe
end
end
section
section
open Go.RowKit
end
end
end Go.Proofs.YtppilhpcmkekbaaGreat
