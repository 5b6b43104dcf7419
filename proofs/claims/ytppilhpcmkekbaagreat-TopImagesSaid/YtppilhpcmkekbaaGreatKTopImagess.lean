/- Parts of the proof. -/
import Derived.Test.YtppilhpcmkekbaaGreatKTopImagesr
set_option linter.unusedSimpArgs false
set_option linter.unusedVariables false
set_option linter.unusedSectionVars false
set_option maxRecDepth 100000
set_option maxHeartbeats 16000000
namespace Go.Proofs.YtppilhpcmkekbaaGreat
open Go.Proofs.Tryz
section
section
structure Wrt (d d':Nv.D) (m:Nat) (a z:Int):Prop where
 D:Dv d' m
 o:∀y:Int,¬(a<y∧y<a+z)→Nv.get d'.cache y=Nv.get d.cache y
 k:∀j:Nat,(∀y:Int,a≤y→y<a+z→y/8≠(j:Int))→Un d' j=Un d j
structure Wro (d d':Nv.D) (m:Nat) (a z:Int):Prop where
 D:Dv d' m
 o:∀y:Int,¬(a<y∧y<a+z)→Nv.get d'.cache y=Nv.get d.cache y
theorem Wrt.w{d d':Nv.D}{m:Nat}{a z:Int}(h:Wrt d d' m a z):Wro d d' m a z:=⟨h.D,h.o⟩
theorem Wrt.refl{d:Nv.D}{m:Nat}(h:Dv d m)(a z:Int):Wrt d d m a z:=⟨h,fun _ _=>rfl,fun _ _=>rfl⟩
theorem Wrt.trans{d e f:Nv.D}{m:Nat}{a z:Int}(h:Wrt d e m a z)(k:Wrt e f m a z):Wrt d f m a z:=
 ⟨k.D,fun y hy=>(k.o y hy).trans (h.o y hy),fun j hj=>(k.k j hj).trans (h.k j hj)⟩
theorem Sto.wrt{d d':Nv.D}{m x:Nat}{v a z:Int}(h:Sto d d' m x v)(hD:Dv d m)(hx:x<8*m)(ha:a<x∧(x:Int)<a+z):Wrt d d' m a z:=
 ⟨h.D,fun y hy=>h.gets hD.len hx y (fun e=>hy Y),fun j hj=>h.k j fun e=>hj x Y ha.2 Y⟩
section
variable{d d':Nv.D}{m n N:Nat}{id:Int}{h:Ko}{a:Int}
theorem Wro.off{s:JZ}{X:Int→Prop}(f:Wro d d' m a (Rl d.cache a))(h:I8 d.cache s N X)(hw:Ob.SQ d.cache)(ha:Gz s.U a=true){b:Int}(hb:Gz s.U b=true):Nv.get d'.cache b=Nv.get d.cache b:=by
 refine f.o b fun hx=>?_
 by_cases hab:a=b
 ·omega
 ·obtain⟨j,_,_,_,_,j3,_,_⟩:=h.obj hw hb
  exact h.apart hw ha hb hab (y:=b) ⟨Y,hx.2⟩ ⟨Y,Y⟩
theorem Ia.wrt(h0:Ia d m n id h N)(f:Wro d d' m a (Rl d.cache a))(ha:Gz h.s.U a=true):Ia d' m n id h N:=by
 obtain⟨k,k1,k2,_,k3,_,k4,k5⟩:=h0.al.obj h0.dev.dv.U ha
 have hl:d'.cache.length=d.cache.length:=by rw[f.D.len,h0.dev.dv.len]
 have hal:I8 d'.cache h.s N fun _=>False:=h0.al.words hl (fun x h1 h2=>f.o x Y) fun b hb=>f.off h0.al h0.dev.dv.U ha hb
 exact⟨h0.dev.words f.D hal.hd h0.dev.hl h0.dev.sm fun x hx=>f.o x Y,hal,h0.sn,h0.V8,h0.r32,h0.hs,h0.hl,h0.ss⟩
theorem Wro.hd{s:JZ}{X:Int→Prop}(f:Wro d d' m a (Rl d.cache a))(hD:Dv d m)(h:I8 d.cache s N X)(ha:Gz s.U a=true){b:Int}(hb:Gz s.U b=true):Ob.hd d'.cache b=Ob.hd d.cache b∧Ob.hp d'.cache b=Ob.hp d.cache b∧Ob.hq d'.cache b=Ob.hq d.cache b∧Rl d'.cache b=Rl d.cache b:=by
 obtain⟨h1,h2,h3⟩:=XV (by rw[f.D.len,hD.len]) (f.off h hD.U ha hb)
 exact⟨h1,h2,h3,by unfold Rl;rw[h2,h3]⟩
theorem Wro.other{s:JZ}{X:Int→Prop}(f:Wro d d' m a (Rl d.cache a))(hD:Dv d m)(h:I8 d.cache s N X)(ha:Gz s.U a=true){b:Int}(hb:Gz s.U b=true)(hne:a≠b):Ob.ptrs d'.cache b=Ob.ptrs d.cache b∧O5 d'.cache b=O5 d.cache b:=by
 obtain⟨h1,h2,h3,h4⟩:=f.hd hD h ha hb
 have hp:=Ob.NG hD.U b
 have hg:∀y,b≤y→y<b+Rl d.cache b→Nv.get d'.cache y=Nv.get d.cache y:=fun y y1 y2=>f.o y fun hx=>h.apart hD.U ha hb hne (y:=y) ⟨Y,hx.2⟩ ⟨y1,y2⟩
 unfold Rl at hg
 constructor
 ·unfold Ob.ptrs Ob.OI
  rw[h2]
  refine EU fun i hi=>?_
  have:=H7.1 hi
  unfold Ob.pAt
  rw[hg _ Y Y]
 ·unfold O5
  rw[h2,h3]
  refine EU fun i hi=>?_
  have:=H7.1 hi
  rw[hg _ Y Y]
theorem Ia.per(h0:Ia d m n id h N){x y:Nat}(p:Per d d' m x y):Ia d' m n id h N:=by
 have hal:I8 d'.cache h.s N fun _=>False:=by rw[p.c];exact h0.al
 exact⟨h0.dev.words p.D hal.hd h0.dev.hl h0.dev.sm fun x hx=>by rw[p.c],hal,h0.sn,h0.V8,h0.r32,h0.hs,h0.hl,h0.ss⟩
theorem Ia.reg(h0:Ia d m n id h N)(r:Nat)(a:Int):Ia d m n id {h with rg:=h.rg.set r a} N:=⟨h0.dev,h0.al,h0.sn,h0.V8,by show(h.rg.set r a).length=32;rw[He];exact h0.r32,h0.hs,h0.hl,h0.ss⟩
theorem Ia.sets(h0:Ia d m n id h N){sL hL:List Bool}(h1:Ib h.sB h.sA h.sC sL)(h2:hL.length=h.hL.length):Ia d m n id {h with sL:=sL,hL:=hL} N:=⟨h0.dev,h0.al,h0.sn,h0.V8,h0.r32,h0.hs.len2 h2,by show hL.length=_;rw[h2];exact h0.hl,h1⟩
theorem Ia.root(h0:Ia d m n id h N){sL:List Bool}(h1:Ib h.sB h.sA h.sC sL)(i:Nat){v:Int}(hv:0≤v∧v<131072):Ia d m n id {h with V:=h.V.set i v,sL:=sL} N:=⟨h0.dev,h0.al,h0.sn,⟨by show(h.V.set i v).length=8;rw[He];exact h0.V8.1,fun x hx=>by
 rcases E5 hx with h2|rfl
 ·exact h0.V8.2 x h2
 ·omega⟩,h0.r32,h0.hs,h0.hl,h1⟩
theorem Ia.alloc(h0:Ia d m n id h N){p q:Int}{z k:Nat}{hs':List Ob.H3}{S' E':IL}{F':Nat→FQ}{MR:FrM}{a:Nat}(hP:UG m h.s N p q z k d d' hs' S' E' F' MR a)(hk:k<32)(r:Nat):Ia d' m n id {h with s:=alS h.s hs' S' E' F' MR a,rg:=h.rg.set r (a:Nat),sL:=Bm.put h.sL (a:Nat) false} (N+264):=by
 have hbd:=hP.ce.bd hk
 have hn:=h0.dev.n2
 have hsn:=h0.sn
 refine⟨h0.dev.words hP.dv hP.al.hd (by rw[←hsn];exact hP.al.hl) hP.al.sm fun x hx=>hP.ot x Y Y,hP.al,hsn,h0.V8,by show(h.rg.set r _).length=32;rw[He];exact h0.r32,h0.hs,h0.hl,h0.ss.put' _ _⟩
theorem Ia.commit(h0:Ia d m n id h N)(hE:h.E≤999){l':List Bool}(hl:l'.length=h.hL.length){d':Nv.D}(e:Nv.cm d m h.E h.k (KL (h.E+1) h.V)=(d',0)):
 Ia d' m n id {h with E:=h.E+1,R:=h.V,k:=1-h.k,hL:=l'} N∧(∀x:Int,256≤x→Nv.get d'.cache x=Nv.get d.cache x)∧∀j,Un d j=false→Un d' j=false:=by
 obtain⟨d2,e2,hdv,acf,hcl⟩:=h0.dev.commit h0.V8 hE
 rw[e]at e2
 injection e2 with e2 _
 subst e2
 have hal':I8 d'.cache h.s N fun _=>False:=h0.al.words (by rw[hdv.dv.len,h0.dev.dv.len]) (fun x h1 h2=>acf x Y) fun a ha=>acf a (by have:=(h0.al.obj h0.dev.dv.U ha).choose_spec;omega)
 exact⟨⟨hdv,hal',h0.sn,h0.V8,h0.r32,h0.hs.len2 hl,by show l'.length=_;rw[hl];exact h0.hl,h0.ss⟩,acf,hcl⟩
end
end
end
section
section
open Go.RowKit
theorem Gm.fresh{α:Type}{enc:α→Value}{w W:World}{I:List Nat}{L:List Fp}{A:Option Addr}{xs:List α}(hS:Gm enc w I A xs)(H:Heap w I L W):Gm enc W (ids L) A xs:=
 ((hS.news (G:=I++ids L) fun i hi=>(BJ.1 hi).elim .inl (H.own i)).later H.only fun i hi=>BQ _ hi).mono fun i hi=>C9 _ hi
theorem Gm.off{α:Type}{enc:α→Value}{w W:World}{I:List Nat}{L:List Fp}{A:Option Addr}{xs:List α}(hS:Gm enc w I A xs)(H:Heap w I L W):Gm enc W I A xs:=hS.later H.only fun _ h=>h
theorem Gm.part{α:Type}{enc:α→Value}{W:World}{L:List Fp}{A:Option Addr}{xs:List α}{E:Fp}(hS:Gm enc W (ids L) A xs)(hE:E∈L):Gm enc W E.ids A xs:=hS.mono fun i hi=>KG.2 ⟨E,hE,hi⟩
theorem P9.fresh{w W:World}{I:List Nat}{L:List Fp}{x:FM}(h:P9 w I x)(H:Heap w I L W):P9 W (ids L) x:=⟨h.ps.fresh H,h.pl,h.ds.fresh H,h.dl,h.pb,h.db,h.nb,h.mb⟩
def SS(ws:List Int)(x:Int):Int:=if x<0 then 0 else ws.getD x.toNat 0
theorem PG(w:World):Calls prog 39 [].toArray w fun e w'=>e= .returned (.agg [.int .i64 (0:Nat),.int .i64 (0:Nat)].toArray)∧Only [] w w':=by
 have H:=Heap.nil w
 refine BM 2 func39 O (Aw (Ea H O aqU fun p0 _ H=>Au (Aw (AL (FP (aul) O) (Eh H 0 O O O O O O O SN ?_)))))
 clear H;refine ayJ fun _ H=>?_
 refine Au (BH (ZP O (IG H 0 O O O UC SN) ?_))
 exact⟨rfl,H.only⟩
theorem aer(w:World):Calls prog 41 [].toArray w fun e w'=>e= .returned (.agg [.int .i64 (0:Nat),.int .i64 (1:Nat)].toArray)∧Only [] w w':=by
 have H:=Heap.nil w
 refine BM 2 func41 O (Aw (Ea H O aqU fun p0 _ H=>Au (Aw (AL (FP (asB _) O) (Eh H 0 O O O O O O O SN ?_)))))
 clear H;refine ayJ fun _ H=>?_
 refine Au (BH (ZP O (IG H 0 O O O UC SN) ?_))
 exact⟨rfl,H.only⟩
section
variable{g:Geo}{d:Nv.D}{m n N:Nat}{id:Int}{h:Ko}{w:World}
theorem al6(hE:DW (h.L g d) w)(hO:Ia d m n id h N)(LA:Option Addr)(ln lc:Nat)(ws:List Int)(hS:Gm (Value.int .i64) w (ids (h.L g d)) LA ws)(hl:ws.length=ln)(hln:ln≤1000000)(x:Int)(hx:x<(ln:Int))(hu:∀a∈ws,Gz h.s.U a=true):
 Calls prog 37 [ptr h.pH,.int .i64 x,.slice LA ln lc].toArray w fun e w'=>e= .returned (.int .i64 0)∧Heap w (ids (h.L g d)) (Ko.L g d {h with rg:=h.rg.set 0 (SS ws x)}) w':=by
 have H:=Heap.start hE
 generalize ids (h.L g d)=I at*
 have h32:=hO.r32
 by_cases h0:x<0
 ·have hDr:=fun{W:World} hE=>agw (g:=g) (d:=d) (h:=h) (w:=W) hE h32 0 Y
  have e:SS ws x=0:=by unfold SS;rw[if_pos h0]
  rw[e]
  refine BM 25 func37 O (Aw (pz ?_))
  refine Cc 9 O O (Cc 9 O O (Cc 9 O O (Cc 9 O O (ED O O (ql ?_)))))
  refine BF O (BI H O (PG _) (Vj O) fun W1 H=>s_call O (hDr H.ents) (aq6 O) ?_)
  rintro e W1 ⟨rfl,H'⟩
  refine⟨_,rfl,?_⟩
  have H:=H.whole H';clear H'
  refine oL ?_
  refine aQ ?_
  exact⟨rfl,H⟩
 ·obtain⟨i,rfl⟩:=Bo (Int.not_lt.1 h0)
  obtain⟨a,ha⟩:∃a,ws[i]? =some a:=⟨_,Ar Y⟩
  obtain⟨q,o,rfl,hqI,hrd⟩:=hS Y
  have cx:=hrd _ _ ha
  have e:SS ws (i:Int)=a:=by unfold SS;rw[if_neg h0,Bz,Ba,ha];rfl
  rw[e]
  have hTk:=fun{W:World} hE=>ahU (g:=g) (d:=d) (h:=h) (w:=W) hE hO 0 Y a (hu a (A8 ha))
  refine BM 25 func37 O (Aw (bM ?_))
  refine AX 9 O (Fz O) (AX 9 O (UN O) (AX 9 O (Ey O underlying22) (AX 9 O (F7 O O Y) (fE ?_))))
  refine AP ?_
  refine Gu mixed ?_;replace H:=H.drew
  refine qh ?_
  refine Eo 2 O O O (fun _ hS=>BP (v:= .slice _ _ _) O) trivial (fU ?_)
  refine Eo 4 O O O (fun _ hS=>Gp (i:=i) O O Y Y underlying22 Kz) trivial ?_
  refine D6 1 5 ?_ ?_
  ·refine BO O (BI H O (PG _) (Vj O) fun W1 H=>iE ?_)
   refine AL (Hq H O cx hqI GU) (nH ?_)
   refine s_call O (hTk H.ents) (aiM O) ?_
   rintro e W1 ⟨rfl,H'⟩
   refine⟨_,rfl,?_⟩
   have H:=H.whole H';clear H'
   refine mG ?_
   refine BH (aQ ?_)
   exact⟨rfl,H⟩
  ·refine BO O (AL (Hq H O cx hqI GU) (tH ?_))
   refine BI H O (PG _) (Vj O) fun W1 H=>nH ?_
   refine s_call O (hTk H.ents) (aiM O) ?_
   rintro e W1 ⟨rfl,H'⟩
   refine⟨_,rfl,?_⟩
   have H:=H.whole H';clear H'
   refine mG ?_
   refine BH (aQ ?_)
   exact⟨rfl,H⟩
end
end
end
section
section
open Go.RowKit
abbrev Ko.mu(h:Ko)(rg:List Int)(sL hL:List Bool):Ko:={h with rg:=rg,sL:=sL,hL:=hL}
theorem Heap.under{w0 W W':World}{I:List Nat}{E:Fp}{A A':List Fp}(H:Heap w0 I (E::A) W)(H':Heap W (ids A) A' W'):Heap w0 I (E::A') W':=by
 have h1:Heap w0 I (A++ [E]) W:=H.perm (Gj (l₁:=[E]) (l₂:=A))
 have h2:=h1.step H' fun i hi=>hi
 exact h2.perm (Gj (l₁:=A') (l₂:=[E]))
theorem Ol{l:List Int}{i:Nat}(v:Int)(h:i<l.length):(l.set i v).getD i 0=v:=by
 rw[Ba,JI h];rfl
theorem afw{l:List Int}{i j:Nat}(v:Int)(h:i≠j):(l.set i v).getD j 0=l.getD j 0:=by
 rw[Ba,Gw h,←Ba]
structure ap8 (d d1:Nv.D) (m:Nat) (a:Int) (ws ps ds:List Int) (i j:Nat):Prop where
 W:Wrt d d1 m a (Rl d.cache a)
 p:∀k:Nat,k<i→Nv.get d1.cache (a+(1+(k:Int)))=SS ws (ps.getD k 0)
 q:∀k:Nat,k<j→Nv.get d1.cache (a+(1+(ps.length:Int)+(k:Int)))=ds.getD k 0
structure afC (d d1:Nv.D) (m:Nat) (a:Int) (ws ps ds:List Int):Prop where
 o:∀y:Int,¬(a<y∧y<a+Rl d.cache a)→Nv.get d1.cache y=Nv.get d.cache y
 D:Dv d1 m
 pt:Ob.ptrs d1.cache a=ps.map (SS ws)
 dt:O5 d1.cache a=ds
 q:∀y:Int,a≤y→y<a+Rl d.cache a→Un d1 (y/8).toNat=false
 k:∀j,Un d j=false→Un d1 j=false
theorem afC.w{d d1:Nv.D}{m:Nat}{a:Int}{ws ps ds:List Int}(h:afC d d1 m a ws ps ds):Wro d d1 m a (Rl d.cache a):=⟨h.D,h.o⟩
theorem ahu{ws:List Int}{b:Int}(h:∀a∈ws,0≤a∧a<b)(hb:0<b)(x:Int):0≤SS ws x∧SS ws x<b:=by
 unfold SS
 split
 ·omega
 ·rw[Ba]
  cases e:ws[x.toNat]? with
  |none=>show(0:Int)≤0∧(0:Int)<b;omega
  |some y=>exact h y (A8 e)
section
variable{g:Geo}{d:Nv.D}{m n N:Nat}{id:Int}{h:Ko}{w:World}
theorem arw(hE:DW (h.L g d) w)(hO:Ia d m n id h N)(hg:Wi g m)(a:Int)(ha:Gz h.s.U a=true)(x:FM)(hx:P9 w (ids (h.L g d)) x)(hp:Ob.hp d.cache a=x.n)(hq:Ob.hq d.cache a=x.m)(LA:Option Addr)(ln lc:Nat)(ws:List Int)(hS:Gm (Value.int .i64) w (ids (h.L g d)) LA ws)(hl:ws.length=ln)(hln:ln≤1000000)(hpr:∀p∈x.ps,p<(ln:Int))(hu:∀a∈ws,Gz h.s.U a=true):
 Calls prog 36 [ptr h.pH,.int .i64 a,.agg x.cells.toArray,.slice LA ln lc].toArray w fun e w'=>∃d' rg sL hL,afC d d' m a ws x.ps x.ds∧Ia d' m n id (h.mu rg sL hL) N∧e= .returned (.int .i64 0)∧Heap w (ids (h.L g d)) (Ko.L g d' (h.mu rg sL hL)) w':=by
 have H:=Heap.start hE
 have hdl:=hO.dev.len
 have hm:=hO.dev.hm
 have hn:=hO.dev.n2
 have hsn:=hO.sn
 have hD:=hO.dev.dv
 obtain⟨ka,ka1,ka2,hhd,ayu,hz1,hz2,hz3⟩:=hO.al.obj hD.U ha
 have apG:∀b∈ws,0≤b∧b<131072:=fun b hb=>by
  obtain⟨_,_,_,_,b1,b2,b3,b4⟩:=hO.al.obj hD.U (hu b hb);omega
 have hpb:=Ob.NG hD.U a
 have hxp:=hx.pl
 have hxd:=hx.dl
 have ayD:Rl d.cache a=1+(x.n:Int)+(x.m:Int):=by unfold Rl;rw[hp,hq]
 have hO0:Ia d m n id (h.mu h.rg h.sL h.hL) N:=hO
 generalize hI:ids (h.L g d)=I at*
 unfold FM.cells
 refine BM 84 func36 O (Aw (DU H O O fun p6 _ H=>qw ?_))
 refine Aw (BR O Iz (iQ ?_))
 refine tV ?_
 refine Ec (fun z f W=>∃(i:Nat) (d1:Nv.D) (rg:List Int) (sL hL:List Bool),i≤x.n∧z=x.n-i∧ap8 d d1 m a ws x.ps x.ds i 0∧Ia d1 m n id (h.mu rg sL hL) N∧f 0=ptr h.pH∧f 1= .int .i64 a∧f 3= .slice LA ln lc∧f 6=ptr p6∧f 20= .slice x.A x.n x.c∧f 21= .int .i64 x.n∧f 22= .int .i64 i∧Heap w I (blk p6 [.slice x.A x.n x.c,.slice x.B x.m x.d] 77::Ko.L g d1 (h.mu rg sL hL)) W) x.n ⟨0,d,h.rg,h.sL,h.hL,Y,rfl,⟨Wrt.refl hD _ _,fun k hk=>Y,fun k hk=>Y⟩,hO0,rfl,rfl,rfl,rfl,rfl,rfl,rfl,H⟩ ?_
 clear H
 rintro z f W ⟨i,d1,rg,sL,hL,hi,rfl,hF,Qm,f0,f1,f3,f6,f20,f21,f22,H⟩
 obtain⟨e1,e2,e3,e4⟩:=hF.W.w.hd hD hO.al ha ha
 by_cases hlt:i<x.n
 ·obtain⟨p,hpx⟩:∃p,x.ps[i]? =some p:=⟨_,Ar Y⟩
  have hpm:=A8 hpx
  obtain⟨q,o,hA,hqI,hrd⟩:=hx.ps Y
  have cx:=hrd _ _ hpx
  have hvb:=ahu apG Y p
  have hpd:x.ps.getD i 0=p:=by rw[Ba,hpx];rfl
  have hl1:rg.length=32:=Qm.r32
  have hTk:=fun{W:World} hE hS=>al6 (g:=g) (d:=d1) (h:=h.mu rg sL hL) (w:=W) hE Qm LA ln lc ws hS hl hln p (hpr p hpm) hu
  obtain⟨v,hv⟩:∃v,SS ws p=v:=⟨_,rfl⟩
  rw[hv]at hvb hTk
  have hO2:Ia d1 m n id (h.mu (rg.set 0 v) sL hL) N:=Qm.reg 0 v
  have hl2:(rg.set 0 v).length=32:=hO2.r32
  have r2:(rg.set 0 v).getD 0 0=v:=Ol v Y
  have hCp:=fun{W:World} hE=>arY (g:=g) (d:=d1) (h:=h.mu (rg.set 0 v) sL hL) (w:=W) hE hl2 1 0 Y Y v r2 hvb.1
  have hO3:Ia d1 m n id (h.mu ((rg.set 0 v).set 1 v) sL hL) N:=hO2.reg 1 v
  have hT2:=fun{W:World} hE=>ahU (g:=g) (d:=d1) (h:=h.mu ((rg.set 0 v).set 1 v) sL hL) (w:=W) hE hO3 0 Y a ha
  have hO4:Ia d1 m n id (h.mu (((rg.set 0 v).set 1 v).set 0 a) sL hL) N:=hO3.reg 0 a
  have r4:(((rg.set 0 v).set 1 v).set 0 a).getD 0 0=a:=Ol a Af
  have r5:(((rg.set 0 v).set 1 v).set 0 a).getD 1 0=v:=by rw[afw a Y];exact Ol v Af
  have hSt:=fun{W:World} hE=>apm (g:=g) (d:=d1) (h:=h.mu (((rg.set 0 v).set 1 v).set 0 a) sL hL) (w:=W) hE hO4 hg 0 1 Y Y i a v r4 r5 ha ⟨Y,by rw[e2];omega⟩ hvb
  generalize((rg.set 0 v).set 1 v).set 0 a=rg4 at*
  rw[hA]at f20 H
  obtain⟨f,rfl⟩:=lv7 f0 f1 f3 f6 f20 f21 f22
  clear f0 f1 f3 f6 f20 f21 f22
  refine lW ?_
  refine AL (Gp (i:=i) O O Y Y underlying22 Kz) (AL (Hq H O cx hqI GU) (AQ O (qw ?_)))
  refine jl ?_
  refine CY O (s_call O (hTk H.drop.ents (hS.fresh H.drop)) (awt O) ?_)
  rintro e W1 ⟨rfl,H'⟩
  refine⟨_,rfl,?_⟩
  have H:=H.under H';clear H'
  refine mW ?_
  refine AO (AP (Aw (BF O (BI H O (aer _) (ash O) fun W1 H=>BI H O (PG _) (Vj O) fun W1 H=>s_call O (hCp H.drop.ents) (au9 O) ?_))))
  rintro e W1 ⟨rfl,H'⟩
  refine⟨_,rfl,?_⟩
  have H:=H.under H';clear H'
  refine mW ?_
  refine AO (AP (Aw (BF O (BI H O (PG _) (Vj O) fun W1 H=>Az O (s_call O (hT2 H.drop.ents) (aiM O) ?_)))))
  rintro e W1 ⟨rfl,H'⟩
  refine⟨_,rfl,?_⟩
  have H:=H.under H';clear H'
  refine mW ?_
  refine AO (Aw (BF O (BI H O (PG _) (Vj O) fun W1 H=>Az O (BI H O (aer _) (ash O) fun W1 H=>s_call O (hSt H.drop.ents) (axf O) ?_))))
  rintro e W1 ⟨d2,sL2,hL2,hs,hss,hhl,rfl,H'⟩
  refine⟨_,rfl,?_⟩
  have H:=H.under H';clear H'
  refine vY ?_
  have hx1:((a+(1+(i:Int))).toNat:Int)=a+(1+i):=Y
  have hw2:=hs.wrt Qm.dev.dv (z:=Rl d.cache a) (a:=a) Y Y
  refine⟨_,_,?_,rfl,i+1,d2,rg4,sL2,hL2,Y,rfl,⟨hF.W.trans hw2,fun k hk=>?_,fun k hk=>Y⟩,?_,rfl,rfl,rfl,rfl,by rw[hA];rfl,rfl,rfl,by rw[hA];exact H⟩
  ·omega
  ·rw[hs.get Y Qm.dev.dv.len,hx1]
   by_cases ek:k=i
   ·subst ek;rw[if_pos rfl,hpd,hv]
   ·rw[if_neg Y];exact hF.p k Y
  ·have h5:=(Ia.wrt (a:=a) hO4 (by rw[←e4]at hw2;exact hw2.w) ha)
   exact h5.sets hss hhl
 ·obtain rfl:i=x.n:=Y
  obtain⟨f,rfl⟩:=lv7 f0 f1 f3 f6 f20 f21 f22
  clear f0 f1 f3 f6 f20 f21 f22
  have hT2:=fun{W:World} hE=>ahU (g:=g) (d:=d1) (h:=h.mu rg sL hL) (w:=W) hE Qm 0 Y a ha
  refine je ?_
  refine AP (Aw (BF O (BI H O (PG _) (Vj O) fun W1 H=>Az O (s_call O (hT2 H.drop.ents) (aiM O) ?_))))
  rintro e W1 ⟨rfl,H'⟩
  refine⟨_,rfl,?_⟩
  have H:=H.under H';clear H'
  refine mW ?_
  refine AO (AP (Aw (BR O Nc (BD H 0 O O O JE (Di O underlying55 (tV ?_))))))
  have hO2:Ia d1 m n id (h.mu (rg.set 0 a) sL hL) N:=Qm.reg 0 a
  have r4:(rg.set 0 a).getD 0 0=a:=Ol a (by have h9:rg.length=32:=Qm.r32;omega)
  generalize rg.set 0 a=rg4 at*
  refine Ec (fun z f W=>∃(j:Nat) (d2:Nv.D),j≤x.m∧z=x.m-j∧ap8 d d2 m a ws x.ps x.ds x.n j∧Ia d2 m n id (h.mu rg4 sL hL) N∧f 0=ptr h.pH∧f 65= .slice x.B x.m x.d∧f 66= .int .i64 x.m∧f 67= .int .i64 j∧Heap w I (blk p6 [.slice x.A x.n x.c,.slice x.B x.m x.d] 77::Ko.L g d2 (h.mu rg4 sL hL)) W) x.m ⟨0,d1,Y,rfl,hF,hO2,rfl,rfl,rfl,rfl,H⟩ ?_
  clear H hF Qm hO2 hT2 e1 e2 e3 e4
  rintro z f W ⟨j,d1,hj,rfl,hF,Qm,f0,f65,f66,f67,H⟩
  obtain⟨e1,e2,e3,e4⟩:=hF.W.w.hd hD hO.al ha ha
  by_cases hlj:j<x.m
  ·obtain⟨v,hvx⟩:∃v,x.ds[j]? =some v:=⟨_,Ar Y⟩
   have hvb:=hx.db v (A8 hvx)
   obtain⟨q,o,hB,hqI,hrd⟩:=hx.ds Y
   have cx:=hrd _ _ hvx
   have hvd:x.ds.getD j 0=v:=by rw[Ba,hvx];rfl
   have hSt:=fun{W:World} hE=>ajw (g:=g) (d:=d1) (h:=h.mu rg4 sL hL) (w:=W) hE Qm 0 Y j v a r4 ha ⟨Y,by rw[e3];omega⟩ hvb
   rw[e2,hp]at hSt
   rw[hB]at f65 H
   obtain⟨f,rfl⟩:=Ih f0 f65 f66 f67
   clear f0 f65 f66 f67
   refine lW ?_
   refine AL (Gp (i:=j) O O Y Y underlying55 GV) (AL (Hq H O cx hqI GR) (AQ O (nV ?_)))
   refine BI H O (PG _) (Vj O) fun W1 H=>Az O (Az O (s_call O (hSt H.drop.ents) (axQ O) ?_))
   rintro e W1 ⟨d2,hs,rfl,H'⟩
   refine⟨_,rfl,?_⟩
   have H:=H.under H';clear H'
   refine vY ?_
   have hx1:((a+(1+(x.n:Int)+(j:Int))).toNat:Int)=a+(1+x.n+j):=Y
   have hw2:=hs.wrt Qm.dev.dv (z:=Rl d.cache a) (a:=a) Y Y
   refine⟨_,_,?_,rfl,j+1,d2,Y,rfl,⟨hF.W.trans hw2,fun k hk=>?_,fun k hk=>?_⟩,?_,rfl,by rw[hB];rfl,rfl,rfl,by rw[hB];exact H⟩
   ·omega
   ·rw[hs.get Y Qm.dev.dv.len,hx1,if_neg Y];exact hF.p k Y
   ·rw[hs.get Y Qm.dev.dv.len,hx1]
    by_cases ek:k=j
    ·subst ek;rw[if_pos Y,hvd]
    ·rw[if_neg Y];exact hF.q k Y
   ·exact Ia.wrt (a:=a) Qm (by rw[←e4]at hw2;exact hw2.w) ha
  ·obtain rfl:j=x.m:=Y
   obtain⟨f,rfl⟩:=Ih f0 f65 f66 f67
   clear f0 f65 f66 f67
   have hPe:=fun{W:World} hE=>aku (g:=g) (d:=d1) (h:=h.mu rg4 sL hL) (w:=W) hE Qm hg 0 Y a r4 ha
   rw[e2,e3]at hPe
   refine uS ?_
   refine BF O (BI H O (PG _) (Vj O) fun W1 H=>s_call O (hPe H.drop.ents) (awO O) ?_)
   rintro e W1 ⟨d2,hs,rfl,H'⟩
   refine⟨_,rfl,?_⟩
   have H:=H.under H';clear H'
   refine fH ?_
   have hO2:=Qm.per hs
   have ayC:=Ob.NG hs.D.U a
   have hc1:∀y,Nv.get d2.cache y=Nv.get d1.cache y:=fun y=>by rw[hs.c]
   refine⟨d2,rg4,sL,hL,⟨fun y hy=>by rw[hc1];exact hF.W.o y hy,hs.D,?_,?_,fun y y1 y2=>?_,fun j hj=>?_⟩,hO2,rfl,H.drop⟩
   ·unfold Ob.ptrs Ob.OI
    rw[hs.c,e2,hp,Bz]
    apply FU (by simp[hxp])
    intro k k1 k2
    have hk:k<x.n:=by simpa using k1
    have hb:=ahu apG Y (x.ps.getD k 0)
    rw[Hr,J7,Hr]
    unfold Ob.pAt
    rw[hF.p k hk]
    have:x.ps.getD k 0=x.ps[k]'Y:=by rw[Ba,Ar Y];rfl
    rw[←this]
    omega
   ·unfold O5
    rw[hs.c,e2,e3,hp,hq,Bz]
    apply FU (by simp[hxd])
    intro k k1 k2
    have hk:k<x.m:=by simpa using k1
    rw[Hr,J7]
    have:=hF.q k hk
    rw[hxp]at this
    rw[this,Ba,Ar k2];rfl
   ·have:=hs.q y.toNat Y (by unfold Rl at y2;omega)
    rw[show(y/8).toNat=y.toNat/8 by omega];exact this
   ·by_cases hj2:∃y:Int,a≤y∧y<a+Rl d.cache a∧y/8=(j:Int)
    ·obtain⟨y,y1,y2,y3⟩:=hj2
     have:=hs.q y.toNat Y (by unfold Rl at y2;omega)
     rw[show j=y.toNat/8 by omega];exact this
    ·refine hs.k j ?_
     rw[hF.W.k j fun y y1 y2 y3=>hj2 ⟨y,y1,y2,y3⟩]
     exact hj
end
end
end
section
section
open Go.RowKit
theorem Heap.Um{w0 W W':World}{I:List Nat}(P:List Fp){A A':List Fp}(H:Heap w0 I (P++A) W)(H':Heap W (ids A) A' W'):Heap w0 I (P++A') W':=
 ((H.perm Gj).step H' fun i hi=>hi).perm Gj
abbrev Ko.ob(h:Ko)(s:JZ)(rg:List Int)(sL:List Bool):Ko:={h with s:=s,rg:=rg,sL:=sL}
def NT(ns:List FM):List Int:=ns.map fun x=>1+(x.n:Int)+(x.m:Int)
structure Zt (d:Nv.D) (U:List Bool) (ws:List Int) (ns:List FM):Prop where
 len:ws.length=ns.length
 nd:ws.Nodup
 us:∀a,Gz U a=true↔a∈ws
 sz:∀(i:Nat) (x:FM) (a:Int),ns[i]? =some x→ws[i]? =some a→Ob.hp d.cache a=x.n∧Ob.hq d.cache a=x.m
 cl:∀j:Nat,(∀a∈ws,∀y:Int,a≤y→y<a+Rl d.cache a→y/8≠(j:Int))→Un d j=false
section
variable{g:Geo}{d d':Nv.D}{m n N:Nat}{id:Int}{h:Ko}{w:World}
theorem Zt.more{s:JZ}{ws:List Int}{ns:List FM}(hI:Zt d s.U ws ns)(hD:Dv d m)(hA:I8 d.cache s N fun _=>False){x:FM}{z k:Nat}{hs':List Ob.H3}{S' E':IL}{F':Nat→FQ}{MR:FrM}{a:Nat}(hk:k<32)(hz:z=1+x.n+x.m)(hp:x.n≤63)(hq:x.m≤16384)(hP:UG m s N x.n x.m z k d d' hs' S' E' F' MR a):Zt d' (Bm.put s.U a true) (ws++ [(a:Int)]) (ns++ [x]):=by
 have hbd:=hP.ce.bd hk
 have hw:=Cl.Hg (k:Int) Y Y
 have hul:=hA.ul
 have hn2:=hA.n2
 have hput:∀b,Gz (Bm.put s.U a true) b=if(a:Int)=b then true else Gz s.U b:=fun b=>Bm.XZ s.U a b true ⟨Y,Y⟩
 have haU:Gz (Bm.put s.U a true) a=true:=by rw[hput,if_pos rfl]
 have hna:(a:Int)∉ws:=fun h=>by have h9:=(hI.us _).2 h;rw[hP.un]at h9;cases h9
 have hus:∀b,Gz (Bm.put s.U a true) b=true↔b∈ws++ [(a:Int)]:=fun b=>by
  rw[hput,BJ,Bf,←hI.us]
  by_cases e:(a:Int)=b
  ·subst e;simp
  ·rw[if_neg e];constructor
   ·exact .inl
   ·rintro(h|h)
    ·exact h
    ·exact absurd h.symm e
 obtain⟨_,_,_,hhd,_,_,_,_⟩:=hP.al.obj hP.dv.U haU
 obtain⟨g1,g2,g3⟩:=Oh.Qx (x.n:Int) (x.m:Int) a Y Y Y Y
 have hpa:Ob.hp d'.cache a=x.n:=by unfold Ob.hp;rw[if_pos hhd,hP.w0];exact g2
 have hqa:Ob.hq d'.cache a=x.m:=by unfold Ob.hq;rw[if_pos hhd,hP.w0];exact g3
 have hlen:d'.cache.length=d.cache.length:=by rw[hP.dv.len,hD.len]
 have hob:∀b∈ws,Ob.hp d'.cache b=Ob.hp d.cache b∧Ob.hq d'.cache b=Ob.hq d.cache b:=fun b hb=>by
  have hbU:Gz (Bm.put s.U a true) b=true:=(hus b).2 (BQ _ hb)
  have hne:(a:Int)≠b:=fun e=>hna (by rw[e];exact hb)
  obtain⟨_,_,_,_,ayx,hb1,_,_⟩:=hP.al.obj hP.dv.U hbU
  have hg:Nv.get d'.cache b=Nv.get d.cache b:=by
   refine hP.ot b (fun hx=>?_) Y
   exact hP.al.apart hP.dv.U haU hbU hne (y:=b) ⟨hx.1,by unfold Rl;rw[hpa,hqa];omega⟩ ⟨Y,Y⟩
  exact(XV hlen hg).2
 refine⟨by rw[Cm,Cm,hI.len];rfl,?_,hus,fun i y b h1 h2=>?_,fun j hj=>?_⟩
 ·refine CS.2 ⟨hI.nd,J,fun u hu v hv e=>?_⟩
  rw[Bf.1 hv]at e
  exact hna (by rw[←e];exact hu)
 ·by_cases hi:i<ns.length
  ·rw[Ej hi]at h1
   rw[Ej (by rw[hI.len];exact hi)]at h2
   obtain⟨e1,e2⟩:=hob b (A8 h2)
   rw[e1,e2];exact hI.sz i y b h1 h2
  ·rw[D8 Y]at h1
   rw[D8 (by rw[hI.len];omega),hI.len]at h2
   have h0:i-ns.length=0:=by
    have:=(BA.1 h1).1;simp at this;omega
   rw[h0]at h1 h2
   simp at h1 h2
   subst h1 h2
   exact⟨hpa,hqa⟩
 ·refine hP.cl j (fun y y1 y2 e=>?_) (hI.cl j fun b hb y y1 y2=>?_)
  ·exact hj a J (y:Int) Y (by unfold Rl;rw[hpa,hqa];omega) Y
  ·refine hj b (BQ _ hb) y y1 ?_
   obtain⟨e1,e2⟩:=hob b hb
   unfold Rl at y2⊢
   rw[e1,e2];exact y2
theorem akC(hE:DW (h.L g d) w)(hO:Ia d m n id h N)(hg:Wi g m)(B:Option Addr)(mm c:Nat)(ns:List FM)(hns:Oz w (ids (h.L g d)) B ns)(hl:ns.length=mm)(hmm:mm≤256)(hsz:∀x∈ns,x.n≤63∧1+x.n+x.m≤256)(hN:N+264*mm≤80000)(hfree:∀a,Gz h.s.U a=false)(hcl:∀j,Un d j=false)(am5:need (IZ (NT ns)) (lk h.s.F)≤frs h.s.hs):
 Calls prog 35 [ptr h.pH,.slice B mm c].toArray w fun e w'=>∃d' s' rg' ZN ws A k,Zt d' s'.U ws ns∧Ia d' m n id (h.ob s' rg' ZN) (N+264*mm)∧e= .returned (.tuple #[.slice A mm k,.int .i64 0])∧Heap w (ids (h.L g d)) (Dw 1 (.slice A mm k) mm (ws.map (Value.int .i64)) 3::Ko.L g d' (h.ob s' rg' ZN)) w':=by
 have H:=(Heap.start hE).G6 1 3
 have hO0:Ia d m n id (h.ob h.s h.rg h.sL) (N+264*0):=hO
 have atz:Zt d h.s.U [] (ns.take 0):=⟨rfl,List.nodup_nil,fun a=>by rw[hfree];simp,fun i x a h1 h2=>by simp at h2,fun j _=>hcl j⟩
 have atm:need (IZ (NT (ns.drop 0))) (lk h.s.F)≤frs h.s.hs:=am5
 generalize hI:ids (h.L g d)=I at*
 refine BM 58 func35 O (Aw (En O (nG ?_)))
 refine En O (Au (AP (Aw (CY O (Di O underlying23 (tV ?_))))))
 refine Ec (fun z f W=>∃(i:Nat) (d1:Nv.D) (s1:JZ) (rg:List Int) (sL:List Bool) (ws:List Int) (A:Option Addr) (k:Nat),i≤mm∧z=mm-i∧ws.length=i∧Zt d1 s1.U ws (ns.take i)∧Ia d1 m n id (h.ob s1 rg sL) (N+264*i)∧need (IZ (NT (ns.drop i))) (lk s1.F)≤frs s1.hs∧f 0=ptr h.pH∧f 6= .slice A i k∧f 14= .slice B mm c∧f 15= .int .i64 mm∧f 16= .int .i64 i∧Heap w I (Dw 1 (.slice A i k) i (ws.map (Value.int .i64)) 3::Ko.L g d1 (h.ob s1 rg sL)) W) mm ⟨0,d,h.s,h.rg,h.sL,[],none,0,Y,rfl,rfl,atz,hO0,atm,rfl,rfl,rfl,rfl,rfl,H⟩ ?_
 clear H hO0 atz atm
 rintro z f W ⟨i,d1,s1,rg,sL,ws,A,k,hi,rfl,hal,hOb,Qm,hnd1,f0,f6,f14,f15,f16,H⟩
 by_cases hlt:i<mm
 ·obtain⟨x,hx⟩:∃x,ns[i]? =some x:=⟨_,Ar Y⟩
  have hxm:=A8 hx
  obtain⟨b,o,hB,hbI,hrd⟩:=hns.1 Y
  have hrx:=hrd i x hx
  have hxo:=hns.2 x hxm
  have hxs:=hsz x hxm
  have hdr:ns.drop i=x::ns.drop (i+1):=by
   rw[←List.getElem_cons_drop (by omega:i<ns.length)]
   congr 1
   exact(BA.1 hx).2
  obtain⟨k1,hk1⟩:=Bo (Cl.QO (1+(x.n:Int)+(x.m:Int))).1
  have J6:k1<32:=by have:=(Cl.QO (1+(x.n:Int)+(x.m:Int))).2;omega
  have hcz:IZ (NT (ns.drop i))=IZ ((1+(x.n:Int)+(x.m:Int))::NT (ns.drop (i+1))):=by rw[hdr];rfl
  obtain⟨c1,c2⟩:=acz (1+(x.n:Int)+(x.m:Int)) (NT (ns.drop (i+1))) k1 hk1
  rw[←hcz]at c1 c2
  have hroom:=ajg (n:=s1.n) (k:=k1) Qm.al.hl J6 Y hnd1
  have hz:((1+x.n+x.m:Nat):Int)=1+(x.n:Int)+(x.m:Int):=Y
  have hAl:=fun{W:World} hE=>aij (g:=g) (d:=d1) (h:=h.ob s1 rg sL) (w:=W) hE Qm hg Y 0 Y (x.n:Int) (x.m:Int) (1+x.n+x.m) k1 Y Y hz (by rw[hz];exact decide_eq_true Y) (by rw[hz];exact hk1) hroom
  have awU:=hxo.nb
  have ayn:=hxo.mb
  rw[hB]at f14
  obtain⟨f,rfl⟩:=Lr f0 f6 f14 f15 f16
  clear f0 f6 f14 f15 f16
  unfold FM.cells at hrx
  refine ak ?_
  refine gQ ?_
  refine ji ?_
  refine Ea H O LV fun p8 _ H=>qH ?_
  clear H;refine ayJ fun _ H=>?_
  refine Au (AP ?_)
  refine Jj (fun f W=>∃d' hs' S' E' F' MR a,UG m s1 (N+264*i) x.n x.m (1+x.n+x.m) k1 d1 d' hs' S' E' F' MR a∧f 0=ptr h.pH∧f 6= .slice A i k∧f 9= .int .i64 0∧f 14= .slice (some ⟨b,o,none⟩) mm c∧f 15= .int .i64 mm∧f 16= .int .i64 i∧Heap w I (Dw 1 (.slice A i k) i (ws.map (Value.int .i64)) 3::Ko.L g d' (h.ob (alS s1 hs' S' E' F' MR a) (rg.set 0 (a:Nat)) (Bm.put sL (a:Nat) false))) W) ?_ ?_
  ·refine Gu mixed ?_;replace H:=H.drew
   refine qg ?_
   refine Dj 2 O O O (fun _ hS=>CB O Iz) trivial (Dj 5 O O O (fun _ hS=>CB O Nc) trivial ?_)
   refine TM 1 3 6 Ak ?_ ?_ ?_
   ·refine BO O (BI H O (PG _) (Vj O) fun W1 H=>aj ?_)
    refine D6 3 6 ?_ ?_
    ·refine lG ?_
     refine aj ?_
     refine mV ?_
     refine Bd 6 O (lV ?_)
     refine kC ?_
     rintro e W1 ⟨d',hs',S',E',F',MR,a,hP,rfl,H'⟩
     refine⟨_,rfl,?_⟩
     have H:=Heap.Um [_,_] H H';clear H';simp only[Bv]at H
     refine aj ?_
     refine fF ?_
     exact⟨d',hs',S',E',F',MR,a,hP,rfl,rfl,rfl,rfl,rfl,rfl,H.drop⟩
    ·refine BO O (lV ?_)
     refine Bd 3 O (BD H 0 O O O Fg (aj ?_))
     refine mV ?_
     refine kC ?_
     rintro e W1 ⟨d',hs',S',E',F',MR,a,hP,rfl,H'⟩
     refine⟨_,rfl,?_⟩
     have H:=Heap.Um [_,_] H H';clear H';simp only[Bv]at H
     refine aj ?_
     refine fF ?_
     exact⟨d',hs',S',E',F',MR,a,hP,rfl,rfl,rfl,rfl,rfl,rfl,H.drop⟩
   ·refine lG ?_
    refine aj ?_
    refine mV ?_
    refine D6 1 6 ?_ ?_
    ·refine BO O (BI H O (PG _) (Vj O) fun W1 H=>nH ?_)
     refine lV ?_
     refine kC ?_
     rintro e W1 ⟨d',hs',S',E',F',MR,a,hP,rfl,H'⟩
     refine⟨_,rfl,?_⟩
     have H:=Heap.Um [_,_] H H';clear H';simp only[Bv]at H
     refine aj ?_
     refine fF ?_
     exact⟨d',hs',S',E',F',MR,a,hP,rfl,rfl,rfl,rfl,rfl,rfl,H.drop⟩
    ·refine BO O (lV ?_)
     refine Bd 1 O (BI H O (PG _) (Vj O) fun W1 H=>aj ?_)
     refine kC ?_
     rintro e W1 ⟨d',hs',S',E',F',MR,a,hP,rfl,H'⟩
     refine⟨_,rfl,?_⟩
     have H:=Heap.Um [_,_] H H';clear H';simp only[Bv]at H
     refine aj ?_
     refine fF ?_
     exact⟨d',hs',S',E',F',MR,a,hP,rfl,rfl,rfl,rfl,rfl,rfl,H.drop⟩
   ·refine BO O (lV ?_)
    refine D6 1 3 ?_ ?_
    ·refine BO O (BI H O (PG _) (Vj O) fun W1 H=>qx ?_)
     refine BD H 0 O O O Fg (aj ?_)
     refine mV ?_
     refine kC ?_
     rintro e W1 ⟨d',hs',S',E',F',MR,a,hP,rfl,H'⟩
     refine⟨_,rfl,?_⟩
     have H:=Heap.Um [_,_] H H';clear H';simp only[Bv]at H
     refine aj ?_
     refine fF ?_
     exact⟨d',hs',S',E',F',MR,a,hP,rfl,rfl,rfl,rfl,rfl,rfl,H.drop⟩
    ·refine lG ?_
     refine aj ?_
     refine mV ?_
     refine Bd 1 O (BI H O (PG _) (Vj O) fun W1 H=>aj ?_)
     refine kC ?_
     rintro e W1 ⟨d',hs',S',E',F',MR,a,hP,rfl,H'⟩
     refine⟨_,rfl,?_⟩
     have H:=Heap.Um [_,_] H H';clear H';simp only[Bv]at H
     refine aj ?_
     refine fF ?_
     exact⟨d',hs',S',E',F',MR,a,hP,rfl,rfl,rfl,rfl,rfl,rfl,H.drop⟩
  clear H
  rintro f W ⟨d',hs',S',E',F',MR,a,hP,f0,f6,f9,f14,f15,f16,H⟩
  obtain⟨f,rfl⟩:=PX f0 f6 f9 f14 f15 f16
  clear f0 f6 f9 f14 f15 f16
  have hO2:=Qm.alloc hP J6 0
  have hAt:=fun{W:World} hE=>hpAt (g:=g) (d:=d') (h:=h.ob (alS s1 hs' S' E' F' MR a) (rg.set 0 (a:Nat)) (Bm.put sL (a:Nat) false)) (w:=W) hE hO2.r32 0 Y a (Ol _ (by have h9:rg.length=32:=Qm.r32;omega))
  refine AO (gy ?_)
  refine Aw (BF O (BI H O (PG _) (Vj O) fun W1 H=>BI H O (hAt H.drop.ents) (au3 O) fun W1 H=>eH ?_))
  refine Au (DR (CY O (Az O (lQ ?_))))
  clear H;intro _ An cn _ H;simp only[Bv,Nat.reduceAdd]at H
  refine En O (vG ?_)
  refine⟨_,_,?_,rfl,i+1,d',alS s1 hs' S' E' F' MR a,rg.set 0 (a:Nat),Bm.put sL (a:Nat) false,ws++ [(a:Int)],_,_,Y,rfl,by simp[hal],?_,?_,?_,rfl,rfl,by rw[hB];rfl,rfl,rfl,?_⟩
  ·omega
  ·rw[←Jc hx];exact hOb.more Qm.dev.dv Qm.al J6 rfl hxs.1 Y hP
  ·rw[show N+264*(i+1)=N+264*i+264 by omega];exact hO2
  ·exact akl J6 c1 (fun j hj=>(c2 j hj)) (fun j hj=>hP.oth j hj) hP.cap hnd1
  ·exact H
 ·obtain rfl:i=mm:=Y
  have htk:ns.take i=ns:=by rw[←hl];exact DL
  rw[htk]at hOb
  obtain⟨f,rfl⟩:=Lr f0 f6 f14 f15 f16
  clear f0 f6 f14 f15 f16
  refine uS ?_
  refine CY O (xO ?_)
  exact⟨d1,s1,rg,sL,ws,A,k,hOb,Qm,rfl,H⟩
end
end
end
section
section
open Go.RowKit
theorem Oz.fresh{w W:World}{I:List Nat}{L:List Fp}{A:Option Addr}{ns:List FM}(h:Oz w I A ns)(H:Heap w I L W):Oz W (ids L) A ns:=
 ⟨fun h0=>by
  obtain⟨b,o,e,hb,hr⟩:=h.1 h0
  refine⟨b,o,e,fun hm=>?_,fun i x hi=>(hr i x hi).later H.only hb⟩
  rcases H.own b hm with h1|h1
  ·exact hb h1
  ·have h2:=cell_lt (hr 0 _ (Ar Y) 0 _ rfl)
   simp at h2;omega,fun x hx=>(h.2 x hx).fresh H⟩
theorem P9.mono{w:World}{F G:List Nat}{x:FM}(h:P9 w F x)(hG:∀i∈G,i∈F):P9 w G x:=⟨h.ps.mono hG,h.pl,h.ds.mono hG,h.dl,h.pb,h.db,h.nb,h.mb⟩
theorem Oz.mono{w:World}{F G:List Nat}{A:Option Addr}{ns:List FM}(h:Oz w F A ns)(hG:∀i∈G,i∈F):Oz w G A ns:=
 ⟨fun h0=>by
  obtain⟨b,o,e,hb,hr⟩:=h.1 h0
  exact⟨b,o,e,fun hm=>hb (hG b hm),hr⟩,fun x hx=>(h.2 x hx).mono hG⟩
theorem LP.mono{w:World}{F G:List Nat}{x:NP}(h:LP w F x)(hG:∀i∈G,i∈F):LP w G x:=⟨h.rs.mono hG,h.rl,h.rb,h.ns.mono hG,h.nl,h.nb,h.mb⟩
theorem LP.fresh{w W:World}{I:List Nat}{L:List Fp}{g:NP}(h:LP w I g)(H:Heap w I L W):LP W (ids L) g:=⟨h.rs.fresh H,h.rl,h.rb,h.ns.fresh H,h.nl,h.nb,h.mb⟩
theorem anE{l:List Int}(h:l.Nodup){i j:Nat}{a:Int}(hi:l[i]? =some a)(hj:l[j]? =some a):i=j:=by
 obtain⟨i1,i2⟩:=BA.1 hi
 obtain⟨j1,j2⟩:=BA.1 hj
 rcases Nat.lt_trichotomy i j with h1|h1|h1
 ·exact absurd (i2.trans j2.symm) (Hu.1 h i j i1 j1 h1)
 ·exact h1
 ·exact absurd (j2.trans i2.symm) (Hu.1 h j i j1 i1 h1)
theorem VZ{α:Type}{enc:α→Value}{size:Nat}{w0 W:World}{F:List Nat}{L:List Fp}{LA:Option Addr}{n c:Nat}{xs:List α}{T:TypeId}(H:Heap w0 F (Dw size (.slice LA n c) n (xs.map enc) T::L) W):Gm enc W (ids L) LA xs:=
 Y9 (A:=L) (B:=[]) (H.perm (Gj (l₁:=[_]) (l₂:=L))) rfl
structure X9 (d:Nv.D) (U:List Bool) (ws:List Int) (ns:List FM) (i:Nat):Prop where
 len:ws.length=ns.length
 nd:ws.Nodup
 us:∀a,Gz U a=true↔a∈ws
 sz:∀(j:Nat) (x:FM) (a:Int),ns[j]? =some x→ws[j]? =some a→Ob.hp d.cache a=x.n∧Ob.hq d.cache a=x.m
 f:∀(j:Nat) (x:FM) (a:Int),j<i→ns[j]? =some x→ws[j]? =some a→Ob.ptrs d.cache a=x.ps.map (SS ws)∧O5 d.cache a=x.ds
 cl:∀j:Nat,(∀(t:Nat) (a:Int),i≤t→ws[t]? =some a→∀y:Int,a≤y→y<a+Rl d.cache a→y/8≠(j:Int))→Un d j=false
theorem Zt.filled{d:Nv.D}{U:List Bool}{ws:List Int}{ns:List FM}(h:Zt d U ws ns):X9 d U ws ns 0:=
 ⟨h.len,h.nd,h.us,h.sz,fun j x a hj=>Y,fun j hj=>h.cl j fun a ha y y1 y2=>by
  obtain⟨t,ht,e⟩:=DY.1 ha
  exact hj t a Y (by rw[Ar ht,e]) y y1 y2⟩
theorem X9.step{d d':Nv.D}{m N i:Nat}{s:JZ}{ws:List Int}{ns:List FM}(h:X9 d s.U ws ns i)(hD:Dv d m)(hA:I8 d.cache s N fun _=>False){x:FM}{a:Int}(hx:ns[i]? =some x)(ha:ws[i]? =some a)(hP:afC d d' m a ws x.ps x.ds):X9 d' s.U ws ns (i+1):=by
 have haU:=(h.us a).2 (A8 ha)
 have hw:=hP.w
 have hsm:∀b∈ws,Ob.hp d'.cache b=Ob.hp d.cache b∧Ob.hq d'.cache b=Ob.hq d.cache b∧Rl d'.cache b=Rl d.cache b:=fun b hb=>(hw.hd hD hA haU ((h.us b).2 hb)).2
 refine⟨h.len,h.nd,h.us,fun j y b h1 h2=>?_,fun j y b hj h1 h2=>?_,fun j hj=>?_⟩
 ·obtain⟨e1,e2,_⟩:=hsm b (A8 h2)
  rw[e1,e2];exact h.sz j y b h1 h2
 ·by_cases e:j=i
  ·subst e
   rw[hx]at h1;rw[ha]at h2
   injection h1 with h1;injection h2 with h2
   subst h1 h2
   exact⟨hP.pt,hP.dt⟩
  ·have hne:a≠b:=fun e2=>by
    subst e2
    exact e (anE h.nd h2 ha)
   obtain⟨e1,e2⟩:=hw.other hD hA haU ((h.us b).2 (A8 h2)) hne
   rw[e1,e2];exact h.f j y b Y h1 h2
 ·by_cases hov:∃y:Int,a≤y∧y<a+Rl d.cache a∧y/8=(j:Int)
  ·obtain⟨y,y1,y2,y3⟩:=hov
   have:=hP.q y y1 y2
   rw[y3,Bz]at this
   exact this
  ·refine hP.k j (h.cl j fun t b ht hb y y1 y2=>?_)
   by_cases e:t=i
   ·subst e
    rw[ha]at hb;injection hb with hb;subst hb
    exact fun e3=>hov ⟨y,y1,y2,e3⟩
   ·exact hj t b Y hb y y1 (by rw[(hsm b (A8 hb)).2.2];exact y2)
structure Built (d:Nv.D) (m n:Nat) (id:Int) (h:Ko) (N:Nat) (ws rs:List Int) (ns:Gr.Nodes):Prop where
 ok:Ia d m n id h N
 len:ws.length=ns.length
 nd:ws.Nodup
 us:∀a,Gz h.s.U a=true↔a∈ws
 pt:∀i (hi:i<ns.length) (hj:i<ws.length),Ob.ptrs d.cache ws[i]=ns[i].1.map (SS ws)
 dt:∀i (hi:i<ns.length) (hj:i<ws.length),O5 d.cache ws[i]=ns[i].2
 V:h.V=rs.map (SS ws)++List.replicate (8-rs.length) 0
 R:h.R=h.V
 cl:∀j,Un d j=false
 E:h.E=2
abbrev Ko.rt(h:Ko)(s:JZ)(rg:List Int)(sL hL:List Bool)(V:List Int):Ko:={h with s:=s,rg:=rg,sL:=sL,hL:=hL,V:=V}
abbrev Ko.cm(h:Ko)(s:JZ)(rg:List Int)(sL hL:List Bool)(V:List Int):Ko:={h with s:=s,rg:=rg,sL:=sL,hL:=hL,V:=V,R:=V,E:=h.E+1,k:=1-h.k}
section
variable{g:Geo}{d:Nv.D}{m n N:Nat}{id:Int}{h:Ko}{w:World}
theorem ars(hE:DW (h.L g d) w)(hF:abe d m n id h N)(hg:Wi g m)(gr:NP)(hgr:LP w (ids (h.L g d)) gr)(hr:Fh gr=true)(h8:gr.n≤8)(hmm:gr.m≤256)(hsz:∀x∈gr.ns,x.n≤63∧1+x.n+x.m≤256)(hN:N+264*gr.m≤80000)(am5:need (IZ (NT gr.ns)) (lk h.s.F)≤frs h.s.hs):
 Calls prog 8 [ptr h.pH,.agg gr.cells.toArray].toArray w fun e w'=>∃d' s rg sL hL V ws,Built d' m n id (h.cm s rg sL hL V) (N+264*gr.m) ws gr.rs gr.nodes∧e= .returned (.int .i64 0)∧Heap w (ids (h.L g d)) (Ko.L g d' (h.cm s rg sL hL V)) w':=by
 have H:=Heap.start hE
 generalize hI:ids (h.L g d)=I at*
 have hO:=hF.ok
 have hRi:=fun{W:World} (h:LP W [] gr)=>Yz gr W h
 rw[hr]at hRi
 have hrl:=hgr.rl
 have hnl:=hgr.nl
 have asJ:=(of_decide_eq_true hr).1
 have av':=(of_decide_eq_true hr).2
 have hOb:=fun{W:World} hE hns=>akC (g:=g) (d:=d) (h:=h) (w:=W) hE hO hg gr.B gr.m gr.d gr.ns hns hnl hmm hsz hN hF.us hF.cl am5
 have hm:=hO.dev.hm
 have hn:=hO.dev.n2
 have hE1:h.E=1:=hF.E
 have hV0:h.V=List.replicate 8 0:=by rw[hF.V];rfl
 unfold NP.cells at*
 refine BM 84 func8 O (Aw (DU H O O fun p3 _ H=>qw ?_))
 refine Aw (Dn H 0 O O O MO Jg (BI H O (hRi ((hgr.later H.only (fun _ h=>h)).mono J)) (ajF O) fun W1 H=>AL (EM O) (BL O (AX 17 O (CB O IU) (AX 17 O (Ef H 0 O O O Fg) (AX 17 O (Ey O underlying22) (AX 17 O (ER O O Y) (fE ?_))))))))
 refine Aw (BF O (BR O Gg (BD H 0 O O O Lm (s_call O (hOb H.drop.ents ((hgr.ns.fresh H.drop))) (axh O) ?_))))
 rintro e W1 ⟨d0,s,rg0,sL0,ws,A,k,hob,hO0,rfl,H'⟩
 refine⟨_,rfl,?_⟩
 have H:=Heap.Um [_] H H';clear H';simp only[Bv]at H
 refine kG ?_
 refine En O (nR ?_)
 refine AP (Aw (jf ?_))
 refine tV ?_
 have hF0:=hob.filled
 have av7:Ia d0 m n id ((h.ob s rg0 sL0).mu rg0 sL0 h.hL) (N+264*gr.m):=hO0
 have awc:ws.length=gr.m:=by rw[hob.len,hnl]
 refine Ec (fun z f W=>∃(i:Nat) (d1:Nv.D) (rg:List Int) (sL hL:List Bool),i≤gr.m∧z=gr.m-i∧X9 d1 s.U ws gr.ns i∧Ia d1 m n id ((h.ob s rg0 sL0).mu rg sL hL) (N+264*gr.m)∧f 0=ptr h.pH∧f 3=ptr p3∧f 5= .slice A gr.m k∧f 34= .slice gr.B gr.m gr.d∧f 35= .int .i64 gr.m∧f 36= .int .i64 i∧Heap w I (blk p3 [.slice gr.A gr.n gr.c,.slice gr.B gr.m gr.d] 25::Dw 1 (.slice A gr.m k) gr.m (ws.map (Value.int .i64)) 3::Ko.L g d1 ((h.ob s rg0 sL0).mu rg sL hL)) W) gr.m ⟨0,d0,rg0,sL0,h.hL,Y,rfl,hF0,av7,rfl,rfl,rfl,rfl,rfl,rfl,H⟩ ?_
 clear H hO0 av7 hF0 hob
 rintro z f W ⟨i,d1,rg,sL,hL,hi,rfl,hFi,Qm,f0,f3,f5,f34,f35,f36,H⟩
 have hus:∀a∈ws,Gz s.U a=true:=fun a ha=>(hFi.us a).2 ha
 by_cases hlt:i<gr.m
 ·obtain⟨x,hx⟩:∃x,gr.ns[i]? =some x:=⟨_,Ar Y⟩
  have hxm:=A8 hx
  obtain⟨a,ha⟩:∃a,ws[i]? =some a:=⟨_,Ar Y⟩
  obtain⟨b,o,hB,hbI,hrd⟩:=hgr.ns.1 Y
  have hrx:=hrd i x hx
  have hxo:=hgr.ns.2 x hxm
  obtain⟨e1,e2⟩:=hFi.sz i x a hx ha
  have hFl:=fun{W:World} hE hx hS=>arw (g:=g) (d:=d1) (h:=(h.ob s rg0 sL0).mu rg sL hL) (w:=W) hE Qm hg a (hus a (A8 ha)) x hx e1 e2 A gr.m k ws hS awc Y (fun p hp=>((av' x hxm).2.2 p hp).2) hus
  obtain⟨q,rfl⟩:=H.JC 1 rfl Y
  rw[hB]at f34 H
  obtain⟨f,rfl⟩:=PX f0 f3 f5 f34 f35 f36
  clear f0 f3 f5 f34 f35 f36
  unfold FM.cells at hrx hFl
  refine lW ?_
  refine gQ ?_
  refine ji ?_
  refine Ea H O LV fun p8 _ H=>AQ O (qH ?_)
  clear H;refine ayJ fun _ H=>?_
  refine Au (AP ?_)
  refine Jj (fun f W=>∃d2 rg2 sL2 hL2,afC d1 d2 m a ws x.ps x.ds∧Ia d2 m n id ((h.ob s rg0 sL0).mu rg2 sL2 hL2) (N+264*gr.m)∧f 0=ptr h.pH∧f 3=ptr p3∧f 5= .slice (some ⟨q,0,none⟩) gr.m k∧f 9= .int .i64 0∧f 34= .slice (some ⟨b,o,none⟩) gr.m gr.d∧f 35= .int .i64 gr.m∧f 36= .int .i64 i∧Heap w I (blk p3 [.slice gr.A gr.n gr.c,.slice (some ⟨b,o,none⟩) gr.m gr.d] 25::Dw 1 (.slice (some ⟨q,0,none⟩) gr.m k) gr.m (ws.map (Value.int .i64)) 3::Ko.L g d2 ((h.ob s rg0 sL0).mu rg2 sL2 hL2)) W) ?_ ?_
  ·refine Gu mixed ?_;replace H:=H.drew
   refine qg ?_
   refine Dj 1 O O O (fun _ hS=>BP (v:= .slice _ _ _) O) trivial (Dj 2 O O O (fun _ hS=>BP (v:= .int _ _) O) trivial (Dj 3 O O O (fun _ hS=>FC (i:=i) O O Y Y underlying22 Kz) trivial (Dj 6 O O O (fun _ hS=>BP (v:= .slice _ _ _) O) trivial ?_)))
   refine D6 4 5 ?_ ?_
   ·refine BO O (AL (L9 H 2 O O ha GU) (iE ?_))
    refine Dn H 0 O O O Xe JR (vP ?_)
    rintro e W1 ⟨d2,rg2,sL2,hL2,hP,hO2,rfl,H'⟩
    refine⟨_,rfl,?_⟩
    have H:=Heap.Um [_,_,_] H H';clear H';simp only[Bv]at H
    refine aj ?_
    refine lY ?_
    exact⟨d2,rg2,sL2,hL2,hP,hO2,rfl,rfl,rfl,rfl,rfl,rfl,rfl,H.drop⟩
   ·refine BO O (Dn H 0 O O O Xe JR (kL ?_))
    refine AL (L9 H 2 O O ha GU) (vP ?_)
    rintro e W1 ⟨d2,rg2,sL2,hL2,hP,hO2,rfl,H'⟩
    refine⟨_,rfl,?_⟩
    have H:=Heap.Um [_,_,_] H H';clear H';simp only[Bv]at H
    refine aj ?_
    refine lY ?_
    exact⟨d2,rg2,sL2,hL2,hP,hO2,rfl,rfl,rfl,rfl,rfl,rfl,rfl,H.drop⟩
  clear H
  rintro f W ⟨d2,rg2,sL2,hL2,hP,hO2,f0,f3,f5,f9,f34,f35,f36,H⟩
  obtain⟨f,rfl⟩:=lv7 f0 f3 f5 f9 f34 f35 f36
  clear f0 f3 f5 f9 f34 f35 f36
  refine AO (aT ?_)
  refine aC ?_
  refine⟨_,_,?_,rfl,i+1,d2,rg2,sL2,hL2,Y,rfl,hFi.step Qm.dev.dv Qm.al hx ha hP,hO2,rfl,rfl,rfl,by rw[hB];rfl,rfl,rfl,by rw[hB];exact H⟩
  omega
 ·obtain rfl:i=gr.m:=Y
  have apG:∀b∈ws,0≤b∧b<131072:=fun b hb=>by
   obtain⟨_,_,_,_,b1,b2,b3,b4⟩:=Qm.al.obj Qm.dev.dv.U (hus b hb)
   have hsn:s.n=n:=Qm.sn
   replace b4:_≤512*(s.n:Int):=b4
   omega
  obtain⟨f,rfl⟩:=PX f0 f3 f5 f34 f35 f36
  clear f0 f3 f5 f34 f35 f36
  have awj:Ia d1 m n id (h.rt s rg sL hL ((gr.rs.take 0).map (SS ws)++List.replicate (8-0) 0)) (N+264*gr.m):=by
   have:(gr.rs.take 0).map (SS ws)++List.replicate (8-0) 0=h.V:=by rw[hV0];rfl
   rw[this];exact Qm
  refine je ?_
  refine AP (Aw (BR O IU (iQ ?_)))
  refine tV ?_
  have hLe:Ko.L g d1 ((h.ob s rg0 sL0).mu rg sL hL)=Ko.L g d1 (h.rt s rg sL hL ((gr.rs.take 0).map (SS ws)++List.replicate (8-0) 0)):=by
   have e9:(gr.rs.take 0).map (SS ws)++List.replicate (8-0) 0=h.V:=by rw[hV0];rfl
   rw[e9]
  replace H:=H.drop
  rw[hLe]at H
  refine Ec (fun z f W=>∃(j:Nat) (rg:List Int) (sL:List Bool),j≤gr.n∧z=gr.n-j∧Ia d1 m n id (h.rt s rg sL hL ((gr.rs.take j).map (SS ws)++List.replicate (8-j) 0)) (N+264*gr.m)∧f 0=ptr h.pH∧f 5= .slice A gr.m k∧f 54= .slice gr.A gr.n gr.c∧f 55= .int .i64 gr.n∧f 56= .int .i64 j∧Heap w I (Dw 1 (.slice A gr.m k) gr.m (ws.map (Value.int .i64)) 3::Ko.L g d1 (h.rt s rg sL hL ((gr.rs.take j).map (SS ws)++List.replicate (8-j) 0))) W) gr.n ⟨0,rg,sL,Y,rfl,awj,rfl,rfl,rfl,rfl,rfl,H⟩ ?_
  clear H awj hLe Qm
  rintro z f W ⟨j,rg,sL,hj,rfl,Qm,f0,f5,f54,f55,f56,H⟩
  by_cases hlj:j<gr.n
  ·obtain⟨r,hrr⟩:∃r,gr.rs[j]? =some r:=⟨_,Ar Y⟩
   obtain⟨b,o,hA,hbI,hrd⟩:=hgr.rs Y
   have cx:=hrd _ _ hrr
   have hok:=asJ r (A8 hrr)
   have hTk:=fun{W:World} hE hS=>al6 (g:=g) (d:=d1) (h:=h.rt s rg sL hL ((gr.rs.take j).map (SS ws)++List.replicate (8-j) 0)) (w:=W) hE Qm A gr.m k ws hS awc Y r hok.2 hus
   have hvb:=ahu apG Y r
   have hset:((gr.rs.take j).map (SS ws)++List.replicate (8-j) 0).set j (SS ws r)=(gr.rs.take (j+1)).map (SS ws)++List.replicate (8-(j+1)) 0:=by
    rw[←Jc hrr,BU,DI]
    have hl1:((gr.rs.take j).map (SS ws)).length=j:=by rw[Ci,Dy];omega
    rw[Kq _ _ Y,hl1,GX,show 8-j=(8-(j+1))+1 by omega,Fa,AZ];rfl
   have hO2:Ia d1 m n id (h.rt s (rg.set 0 (SS ws r)) sL hL ((gr.rs.take j).map (SS ws)++List.replicate (8-j) 0)) (N+264*gr.m):=Qm.reg 0 _
   have r2:(rg.set 0 (SS ws r)).getD 0 0=SS ws r:=Ol _ (by have:=Qm.r32;replace this:rg.length=32:=this;omega)
   have hSR:=fun{W:World} hE=>ajy (g:=g) (d:=d1) (h:=h.rt s (rg.set 0 (SS ws r)) sL hL ((gr.rs.take j).map (SS ws)++List.replicate (8-j) 0)) (w:=W) hE hO2 0 j Y Y _ r2 hvb
   have hO3:=fun{ZN:List Bool} hss=>hO2.root (sL:=ZN) hss j hvb
   replace hO3:∀{ZN:List Bool},Ib h.sB h.sA h.sC ZN→Ia d1 m n id (h.rt s (rg.set 0 (SS ws r)) ZN hL ((gr.rs.take (j+1)).map (SS ws)++List.replicate (8-(j+1)) 0)) (N+264*gr.m):=by
    rw[←hset];exact hO3
   rw[hA]at f54
   obtain⟨f,rfl⟩:=Lr f0 f5 f54 f55 f56
   clear f0 f5 f54 f55 f56
   refine lW ?_
   refine AL (Gp (i:=j) O O Y Y underlying22 Kz) (AL (Hq H O cx hbI GU) (AQ O (qw ?_)))
   refine jl ?_
   refine CY O (s_call O (hTk H.drop.ents (VZ H)) (awt O) ?_)
   rintro e W1 ⟨rfl,H'⟩
   refine⟨_,rfl,?_⟩
   have H:=H.under H';clear H'
   refine mW ?_
   refine AO (jl ?_)
   refine BI H O (PG _) (Vj O) fun W1 H=>s_call O (hSR H.drop.ents) (ayg O) ?_
   rintro e W1 ⟨ZN,hss,rfl,H'⟩
   refine⟨_,rfl,?_⟩
   have H:=H.under H';clear H'
   refine vY ?_
   refine⟨_,_,?_,rfl,j+1,_,ZN,Y,rfl,hO3 hss,rfl,rfl,by rw[hA];rfl,rfl,rfl,by rw[←hset];exact H⟩
   omega
  ·obtain rfl:j=gr.n:=Y
   have htk:gr.rs.take gr.n=gr.rs:=by rw[←hrl];exact DL
   rw[htk,←hrl]at Qm H
   generalize hVd:gr.rs.map (SS ws)++List.replicate (8-gr.rs.length) 0=V at*
   have hD1:=fun{W:World} hE=>agw (g:=g) (d:=d1) (h:=h.rt s rg sL hL V) (w:=W) hE Qm.r32 0 Y
   have hO2:Ia d1 m n id (h.rt s (rg.set 0 0) sL hL V) (N+264*gr.m):=Qm.reg 0 0
   have hD2:=fun{W:World} hE=>agw (g:=g) (d:=d1) (h:=h.rt s (rg.set 0 0) sL hL V) (w:=W) hE hO2.r32 1 Y
   have hO3:Ia d1 m n id (h.rt s ((rg.set 0 0).set 1 0) sL hL V) (N+264*gr.m):=hO2.reg 1 0
   have hCm:=fun{W:World} hE=>ama (g:=g) (d:=d1) (h:=h.rt s ((rg.set 0 0).set 1 0) sL hL V) (w:=W) hE hO3 hg (by show h.E≤999;omega)
   obtain⟨f,rfl⟩:=Lr f0 f5 f54 f55 f56
   clear f0 f5 f54 f55 f56
   refine uS ?_
   refine BF O (BI H O (PG _) (Vj O) fun W1 H=>s_call O (hD1 H.drop.ents) (aq6 O) ?_)
   rintro e W1 ⟨rfl,H'⟩
   refine⟨_,rfl,?_⟩
   have H:=H.under H';clear H'
   refine Au (Aw (BF O (BI H O (aer _) (ash O) fun W1 H=>s_call O (hD2 H.drop.ents) (aq6 O) ?_)))
   rintro e W1 ⟨rfl,H'⟩
   refine⟨_,rfl,?_⟩
   have H:=H.under H';clear H'
   refine Au (Aw (BF O (s_call O (hCm H.drop.ents) (axC O) ?_)))
   rintro e W1 ⟨d2,hL2,ecm,hll,rfl,H'⟩
   refine⟨_,rfl,?_⟩
   have H:=H.under H';clear H'
   refine fH ?_
   obtain⟨hO4,acf,hcl⟩:=hO3.commit (by show h.E≤999;omega) hll ecm
   have hlen:d2.cache.length=d1.cache.length:=by rw[hO4.dev.dv.len,hO3.dev.dv.len]
   have adS:∀a∈ws,Ob.ptrs d2.cache a=Ob.ptrs d1.cache a∧O5 d2.cache a=O5 d1.cache a:=fun a ha=>by
    obtain⟨_,_,_,_,b1,b2,b3,b4⟩:=hO3.al.obj hO3.dev.dv.U (hus a ha)
    obtain⟨e1,e2,e3⟩:=Yk hlen (acf a Y)
    have hpb:=Ob.NG hO3.dev.dv.U a
    refine⟨abr b1 hlen fun x hx=>acf x Y,?_⟩
    unfold O5
    rw[e2,e3]
    refine EU fun i _=>?_
    rw[acf _ Y]
   refine⟨d2,s,_,sL,hL2,V,ws,⟨hO4,by rw[hFi.len];simp[NP.nodes],hFi.nd,hFi.us,fun i hi hj=>?_,fun i hi hj=>?_,hVd.symm,rfl,fun j=>?_,by show h.E+1=2;omega⟩,rfl,H.drop⟩
   ·have hin:i<gr.ns.length:=by rw[←hFi.len];exact hj
    have:=(hFi.f i gr.ns[i] ws[i] Y (Ar hin) (Ar hj)).1
    rw[(adS _ (FT _)).1,this]
    simp only[NP.nodes,Hr]
   ·have hin:i<gr.ns.length:=by rw[←hFi.len];exact hj
    have:=(hFi.f i gr.ns[i] ws[i] Y (Ar hin) (Ar hj)).2
    rw[(adS _ (FT _)).2,this]
    simp only[NP.nodes,Hr]
   ·exact hcl j (hFi.cl j fun t a ht ha=>by
     have:=(BA.1 ha).1
     omega)
end
end
end
section
section
structure Oo (u:Int→Bool) (out:List Int):Prop where
 nd:out.Nodup
 us:∀x∈out,0≤x∧u x=true
def Kn(out ys:List Int):Prop:=∀y∈ys,y<0∨y∈out
theorem Oo.nil(u:Int→Bool):Oo u []:=⟨List.nodup_nil,fun x h=>by cases h⟩
theorem Oo.come{u:Int→Bool}(hu:∀y,u y=true→0≤y){out:List Int}(h:Oo u out)(y:Int):Oo u (Gr.come out (NM u y)):=by
 unfold Gr.come
 split
 ·exact h
 ·rename_i hc
  rcases Xf u y with e|⟨e,e2⟩
  ·exact absurd (.inl (by rw[e];omega)) hc
  ·rw[e]at hc⊢
   refine⟨CS.2 ⟨h.nd,J,fun a ha b hb e3=>?_⟩,fun x hx=>?_⟩
   ·rw[Bf.1 hb]at e3
    exact hc (.inr (e3▸ha))
   ·rcases BJ.1 hx with hx|hx
    ·exact h.us x hx
    ·rw[Bf.1 hx];exact⟨hu y e2,e2⟩
theorem amB(out:List Int)(c:Int):∃m,Gr.come out c=out++m:=by
 rcases Gr.aiu out c with e|e
 ·exact⟨[],by rw[e,Du]⟩
 ·exact⟨[c],e⟩
theorem aoF(out:List Int)(c:Int):c<0∨c∈Gr.come out c:=by
 unfold Gr.come
 split
 ·rename_i h;exact h
 ·exact .inr J
theorem adC{u:Int→Bool}{out:List Int}(h:Oo u out){y:Int}(hy:y<0):Gr.J3 out y= -1:=Gr.Xo _ _ fun hm=>by have:=(h.us y hm).1;omega
theorem aiH{l m:List Int}(hd:(l++m).Nodup){x:Int}(hx:x∈l):Gr.J3 (l++m) x=Gr.J3 l x:=by
 obtain⟨i,hi,e,f⟩:=Gr.Ui l x (CS.1 hd).1 hx
 have:=Gr.SG (l++m) i (by rw[Cm];omega) hd
 rw[List.getElem_append_left hi,(BA.1 e).2]at this
 rw[this,f]
theorem aq7{u:Int→Bool}{out m:List Int}(h:Oo u (out++m)){y:Int}(hy:y<0∨y∈out):Gr.J3 (out++m) y=Gr.J3 out y:=by
 rcases hy with hy|hy
 ·rw[adC h hy,Gr.Xo]
  intro hm
  have:=(h.us y (BQ _ hm)).1;omega
 ·exact aiH h.nd hy
theorem Kn.more{out ys:List Int}(h:Kn out ys)(m:List Int):Kn (out++m) ys:=fun y hy=>(h y hy).imp id (BQ _)
theorem Kn.map{u:Int→Bool}{out m ys:List Int}(h:Kn out ys)(ho:Oo u (out++m)):ys.map (Gr.J3 (out++m))=ys.map (Gr.J3 out):=EU fun y hy=>aq7 ho (h y hy)
theorem Wn{u:Int→Bool}(hu:∀y,u y=true→0≤y){out ys:List Int}(ho:Oo u out)(hk:Kn out ys)(y:Int):
 ∃m,Gr.come out (NM u y)=out++m∧Oo u (out++m)∧Kn (out++m) (ys++ [NM u y])∧ys.map (Gr.J3 out)++ [Gr.J3 (out++m) (NM u y)]=(ys++ [NM u y]).map (Gr.J3 (out++m)):=by
 obtain⟨m,hm⟩:=amB out (NM u y)
 have h1:=ho.come hu y
 rw[hm]at h1
 refine⟨m,hm,h1,fun z hz=>?_,?_⟩
 ·rcases BJ.1 hz with hz|hz
  ·exact hk.more m z hz
  ·rw[Bf.1 hz,←hm];exact aoF _ _
 ·rw[BU,hk.map h1];rfl
def Tz(l:List (Int×Int))(out:List Int):Prop:=∀x,Ij l x=if x∈out then some (Gr.J3 out x)else none
theorem Tz.nil:Tz [] []:=fun x=>by rw[if_neg J];rfl
theorem Tz.new{l:List (Int×Int)}{out:List Int}(h:Tz l out){c:Int}(hd:(out++ [c]).Nodup):Tz (Lp l c out.length) (out++ [c]):=fun x=>by
 have hc:Gr.J3 (out++ [c]) c=out.length:=by
  have:=Gr.SG (out++ [c]) out.length J hd
  rw[NH (Bg _)]at this
  simpa using this
 by_cases e:x=c
 ·subst e
  rw[Wp,if_pos J,hc]
 ·rw[YU _ _ _ _ e,h x]
  by_cases hx:x∈out
  ·rw[if_pos hx,if_pos (BQ _ hx),aiH hd hx]
  ·rw[if_neg hx,if_neg]
   intro hm
   rcases BJ.1 hm with hm|hm
   ·exact hx hm
   ·exact e (Bf.1 hm)
theorem abo{u:Int→Bool}{out m:List Int}(ho:Oo u (out++m)){os:List Int}{pt:Int→List Int}{dt:Int→List Int}(hk:∀y∈os,Kn out (pt y)):os.map (fun y=>((pt y).map (Gr.J3 (out++m)),dt y))=os.map (fun y=>((pt y).map (Gr.J3 out),dt y)):=
 EU fun y hy=>by rw[(hk y hy).map ho]
end
end
section
section
open Go.RowKit
def comB(p5 p6 p7 pA bm:Nat)(l:List (Int×Int))(OA:Option Addr)(oc:Nat)(out:List Int):List Fp:=
 [blk p5 [ptr pA] 73,blk p6 [.map (some bm)] 127,mp kT (Value.int .i64) bm l,blk p7 [.slice OA out.length oc] 22,Dw 1 (.slice OA out.length oc) out.length (out.map (Value.int .i64)) 3]
theorem gdT{c:Int}(h: -9223372036854775808≤c∧c≤9223372036854775807):kT.Gd c:=h
theorem asy{g:Geo}{s:JZ}{p5 p6 p7 bm oc:Nat}{l:List (Int×Int)}{OA:Option Addr}{out:List Int}{w:World}(hA:DW (s.L g) w)(hE:DW (comB p5 p6 p7 s.pA bm l OA oc out) w)(hU:Ib s.bU s.AU s.cU s.U)(ho:Oo (Gz s.U) out)(hn:Tz l out)(hl:out.length≤1000000)(c:Int)(hc: -9223372036854775808≤c∧c≤9223372036854775807):
 Calls prog 195 [.int .i64 c,ptr p5,ptr p6,ptr p7].toArray w fun e w'=>∃l' OW oc',Tz l' (Gr.come out (NM (Gz s.U) c))∧e= .returned (.int .i64 (Gr.J3 (Gr.come out (NM (Gz s.U) c)) (NM (Gz s.U) c)))∧Heap w (ids (comB p5 p6 p7 s.pA bm l OA oc out)) (comB p5 p6 p7 s.pA bm l' OW oc' (Gr.come out (NM (Gz s.U) c))) w':=by
 have H:=Heap.start hE
 generalize ids (comB p5 p6 p7 s.pA bm l OA oc out)=I at*
 have hUs:=fun{W:World} hE=>ahx (g:=g) (s:=s) (w:=W) hE hU c
 unfold comB at H⊢
 cases hu:Gz s.U c with
 |false=>
  have e1:NM (Gz s.U) c= -1:=by unfold NM;rw[hu];rfl
  have e2:Gr.come out (-1)=out:=by unfold Gr.come;rw[if_pos (.inl Y)]
  have e3:Gr.J3 out (-1)= -1:=adC ho Y
  rw[e1,e2,e3]
  rw[hu]at hUs
  refine wH ?_
  refine BI H O (hUs hA) (aaI O) fun W1 H=>AL (Jm O) (fV ?_)
  exact⟨l,OA,oc,hn,rfl,H⟩
 |true=>
  have e1:NM (Gz s.U) c=c:=by unfold NM;rw[hu];rfl
  rw[e1]
  rw[hu]at hUs
  have hc0:=(Za hu).1
  have hg:=hn c
  by_cases hm:c∈out
  ·have e2:Gr.come out c=out:=by unfold Gr.come;rw[if_pos (.inr hm)]
   rw[e2]
   rw[if_pos hm]at hg
   generalize Gr.J3 out c=v at*
   refine wH ?_
   refine BI H O (hUs hA) (aaI O) fun W1 H=>gK ?_
   refine Aw (BD H 1 O O O KW (Az O (AL (aiT H 2 O O O ((gdT hc)) (hg) underlying127 (JL GI) O) (oC ?_))))
   refine gK ?_
   refine Aw (Az O (fH ?_))
   exact⟨l,OA,oc,hn,rfl,H⟩
  ·have e2:Gr.come out c=out++ [c]:=by unfold Gr.come;rw[if_neg];rintro(h|h);omega;exact hm h
   have hd:(out++ [c]).Nodup:=by
    refine CS.2 ⟨ho.nd,J,fun a ha b hb e3=>?_⟩
    rw[Bf.1 hb]at e3
    exact hm (e3▸ha)
   have e3:Gr.J3 (out++ [c]) c=out.length:=by
    have:=Gr.SG (out++ [c]) out.length J hd
    rw[NH (Bg _)]at this
    simpa using this
   rw[e2,e3]
   rw[if_neg hm]at hg
   have hn2:=hn.new hd
   refine wH ?_
   refine BI H O (hUs hA) (aaI O) fun W1 H=>gK ?_
   refine Aw (BD H 1 O O O KW (Az O (AL (ail H 2 O O O ((gdT hc)) (hg) underlying127 (JL GI)) (oC ?_))))
   refine AL (Jm O) (ql ?_)
   refine BD H 3 O O O Fg (eU ?_)
   refine nG ?_
   refine BD H 1 O O O KW (Az O (Az O (U6 H 2 O O O O O ((gdT hc)) underlying127 ?_)))
   clear H;refine ayJ fun _ H=>?_
   refine Au (DR (BD H 3 O O O Fg (Az O (O7 (enc:=(Value.int .i64)) H 4 O O O O O O O Y underlying22 GI O ?_))))
   clear H;intro _ An cn _ H;simp only[Bv,Nat.reduceAdd]at H
   refine Ic (u:= .slice _ _ _) H 3 O O O O O O Lh ?_
   clear H;refine ayJ fun _ H=>?_
   refine Au (Aw (Az O (fH ?_)))
   rw[show out.length+1=(out++ [c]).length by simp]at H
   exact⟨_,_,_,hn2,rfl,H⟩
end
end
section
section
open Go.RowKit
theorem aja{c:List Int}{a:Int}(h:0≤Ob.hp c a){k:Nat}(hk:(k:Int)<Ob.hp c a):(Ob.ptrs c a)[k]? =some (Ob.pAt c (a+(1+(k:Int)))):=by
 unfold Ob.ptrs Ob.OI
 rw[BG,FD Y];rfl
theorem amC{c:List Int}{a:Int}(h:0≤Ob.hq c a){k:Nat}(hk:(k:Int)<Ob.hq c a):(O5 c a)[k]? =some (Nv.get c (a+(1+Ob.hp c a+(k:Int)))):=by
 unfold O5
 rw[BG,FD Y];rfl
theorem Oo.len{U:List Bool}{n:Nat}(hU:U.length=n){out:List Int}(h:Oo (Gz U) out):out.length≤n:=Gr.QB n out h.nd fun x hx=>by
 have:=Za (h.us x hx).2;omega
theorem agp{w W:World}{G:List Nat}(hG:∀i∈G,i<w.heap.size){L:List Fp}{RA NA:Option Addr}{n m cR cN:Nat}{rs:List Int}{ns:List FM}{T:TypeId}(hrl:rs.length=n)(hnl:ns.length=m)(H:Heap w [] (Dw 1 (.slice RA n cR) n (rs.map (Value.int .i64)) 3::Dw 2 (.slice NA m cN) m ((ML ns).map C1.v) T::grp (ns.map J4)::L) W)
 (hr:n≤100000) (hn:m≤100000) (hrb:∀p∈rs,-9223372036854775808≤p∧p≤9223372036854775807) (hx:∀x∈ns,x.n≤100000∧x.m≤100000∧(∀p∈x.ps,-9223372036854775808≤p∧p≤9223372036854775807)∧∀p∈x.ds,0≤p∧p≤18446744073709551615):
 LP W G ⟨RA,n,cR,rs,NA,m,cN,ns⟩:=by
 have h0:=afM hrl hnl H hr hn hrb hx
 have hnew:∀i∈ids (Dw 1 (.slice RA n cR) n (rs.map (Value.int .i64)) 3::Dw 2 (.slice NA m cN) m ((ML ns).map C1.v) T::grp (ns.map J4)::L),i∉G:=fun i hi hm=>by
  rcases H.own i hi with h1|h1
  ·cases h1
  ·have:=hG i hm;omega
 have hmem:∀(j:Nat) (E:Fp),(Dw 1 (.slice RA n cR) n (rs.map (Value.int .i64)) 3::Dw 2 (.slice NA m cN) m ((ML ns).map C1.v) T::grp (ns.map J4)::L)[j]? =some E→∀i∈E.ids,i∉G:=fun j E hE i hi=>hnew i (KG.2 ⟨E,A8 hE,hi⟩)
 refine⟨fun hl=>?_,h0.rl,h0.rb,⟨fun hl=>?_,fun x hxm=>?_⟩,h0.nl,h0.nb,h0.mb⟩
 ·obtain⟨b,e,hb,hrd⟩:=H.LZ 0 rfl hl
  obtain⟨b2,o2,e2,_,YQ⟩:=h0.rs hl
  replace e2:RA=some ⟨b2,o2,none⟩:=e2
  rw[e]at e2
  injection e2 with e2
  injection e2 with e3 e4
  subst e3 e4
  exact⟨b,0,e,hmem 0 _ rfl b hb,YQ⟩
 ·have h1:(ML ns).length≠0:=by rw[acr];replace hl:ns.length≠0:=hl;omega
  obtain⟨b,e,hb,hrd⟩:=H.LZ 1 rfl h1
  obtain⟨b2,o2,e2,_,YQ⟩:=h0.ns.1 hl
  replace e2:NA=some ⟨b2,o2,none⟩:=e2
  rw[e]at e2
  injection e2 with e2
  injection e2 with e3 e4
  subst e3 e4
  exact⟨b,0,e,hmem 1 _ rfl b hb,YQ⟩
 ·have hk:=h0.ns.2 x hxm
  have h1:=(H.Bl 2 rfl).1 (J4 x) (BX.2 ⟨x,hxm,rfl⟩)
  have h2:DW [Dw 1 (.slice x.A x.n x.c) x.n (x.ps.map (Value.int .i64)) 3,Dw 1 (.slice x.B x.m x.d) x.m (x.ds.map (Value.int .u64)) 26] W:=h1
  have H2:=Heap.start h2
  have hin:∀(j:Nat) (E:Fp),[Dw 1 (.slice x.A x.n x.c) x.n (x.ps.map (Value.int .i64)) 3,Dw 1 (.slice x.B x.m x.d) x.m (x.ds.map (Value.int .u64)) 26][j]? =some E→∀i∈E.ids,i∉G:=fun j E hE i hi=>
   hmem 2 _ rfl i (KG.2 ⟨J4 x,BX.2 ⟨x,hxm,rfl⟩,KG.2 ⟨E,A8 hE,hi⟩⟩)
  refine⟨fun hl=>?_,hk.pl,fun hl=>?_,hk.dl,hk.pb,hk.db,hk.nb,hk.mb⟩
  ·obtain⟨b,e,hb,hrd⟩:=H2.LZ 0 rfl hl
   obtain⟨b2,o2,e2,_,YQ⟩:=hk.ps hl
   rw[e]at e2
   injection e2 with e2
   injection e2 with e3 e4
   subst e3 e4
   exact⟨b,0,e,hin 0 _ rfl b hb,YQ⟩
  ·obtain⟨b,e,hb,hrd⟩:=H2.LZ 1 rfl hl
   obtain⟨b2,o2,e2,_,YQ⟩:=hk.ds hl
   rw[e]at e2
   injection e2 with e2
   injection e2 with e3 e4
   subst e3 e4
   exact⟨b,0,e,hin 1 _ rfl b hb,YQ⟩
section
variable{g:Geo}{d:Nv.D}{m n N:Nat}{id:Int}{h:Ko}{w:World}
theorem aym(hE:DW (h.L g d) w)(hO:Ia d m n id h N)(afz:n≤190)(FA:Option Addr)(fn fc:Nat)(xs:List Int)(hS:Gm (Value.int .i64) w [] FA xs)(hl:xs.length=fn)(hfn:fn≤1000)(hxb:∀x∈xs,-9223372036854775808≤x∧x≤9223372036854775807):
 Calls prog 128 [ptr h.pH,.slice FA fn fc].toArray w fun e w'=>(∃g' o,e= .returned (.agg g'.cells.toArray)∧(∀G,(∀i∈G,i<w.heap.size)→LP w' G g')∧Rd d.cache (Gz h.s.U) xs o g'.rs g'.nodes∧g'.n=fn∧g'.m=o.length)∧Only [] w w':=by
 have HR:=Heap.start hE
 have H:=Heap.nil w
 have hsn:=hO.sn
 have hn:=hO.dev.n2
 have hcl:=hO.dev.len
 have hW:=hO.dev.dv.U
 have hSp:=fun{W:World} hE=>ain (g:=g) (d:=d) (h:=h) (w:=W) hE
 have hul:h.s.U.length=512*n:=by rw[hO.al.ul,hsn]
 have hu0:∀y,Gz h.s.U y=true→0≤y:=fun y hy=>(Za hy).1
 have hu1:∀y,Gz h.s.U y=true→Ob.pl h.s.n d.cache h.s.hs y=true:=hO.al.us
 have hCm:=fun{W:World} {p5 p6 p7 bm oc:Nat} {l:List (Int×Int)} {OA:Option Addr} {out:List Int} hA hE ho hn c hc=>asy (g:=g) (s:=h.s) (p5:=p5) (p6:=p6) (p7:=p7) (bm:=bm) (oc:=oc) (l:=l) (OA:=OA) (out:=out) (w:=W) hA hE hO.al.su ho hn (by have:=Oo.len hul ho;omega) c hc
 have hPl:=fun{W:World} hE a ha=>ah5 g d h.s W hE hW hO.al.hl Y hO.al.sm hO.al.cl a ha
 have WM:=fun{W:World} hE=>X4 (g:=g) (s:=h.s) (w:=W) hE
 obtain⟨u,hu⟩:∃u,Gz h.s.U=u:=⟨_,rfl⟩
 have hol:∀{out:List Int},Oo u out→out.length≤512*n:=fun h=>Oo.len hul (by rw[hu];exact h)
 rw[hu]at hu0 hu1 hCm⊢
 refine BM 111 func128 O (Aw (Ea H O O6 fun p4 _ H=>Au (Aw (BF O (BI H O (hSp (HR.same H.only).ents) (avr O) fun W1 H=>aa5 H O avm O ?_)))))
 intro p5 _ H';clear H;have H:=H';clear H'
 refine Ic (u:= .pointer _) H 0 O O O O O O atj ?_
 clear H;refine ayJ fun _ H=>?_
 refine Au (Aw (agR kT (Value.int .i64) H O ?_))
 intro bm _ H';clear H;have H:=H';clear H'
 refine aa5 H O arJ O ?_
 intro p6 _ H';clear H;have H:=H';clear H'
 refine Ic (u:= .map _) H 0 O O O O O O avv ?_
 clear H;refine ayJ fun _ H=>?_
 refine Au (Aw (aa5 H O UU O ?_))
 intro p7 _ H';clear H;have H:=H';clear H'
 refine Au (pO ?_)
 refine Au (Aw (Ea H O O6 fun p9 _ H=>Au (uj ?_)))
 replace H:=((H.G6 1 3).G6 1 3)
 replace H:Heap w [] (comB p5 p6 p7 h.s.pA bm [] none 0 []++ [blk p9 [.slice none 0 0,.slice none 0 0] 25,Dw 1 (.slice none 0 0) 0 [] 3,blk p4 [.slice none 0 0,.slice none 0 0] 25]) _:=H.order [6,4,5,3,0,2,1,7] rfl rfl
 replace H:=(Heap.agS H).order [1,2,0,3] rfl rfl
 have hn0:=Tz.nil
 refine Ec (fun z f W=>∃(i:Nat) (RA:Option Addr) (cR:Nat) (l:List (Int×Int)) (OA:Option Addr) (oc:Nat) (out:List Int),i≤fn∧z=fn-i∧Tz l out∧Oo u out∧Kn out ((xs.take i).map (NM u))∧out=((xs.take i).map (NM u)).foldl Gr.come []∧f 4=ptr p4∧f 5=ptr p5∧f 7=ptr p7∧f 8= .func (.func 195) #[] [ptr p5,ptr p6,ptr p7].toArray∧f 9=ptr p9∧f 26= .slice FA fn fc∧f 27= .int .i64 fn∧f 28= .int .i64 i∧Heap w [] [blk p9 [.slice RA i cR,.slice none 0 0] 25,Dw 1 (.slice RA i cR) i ((((xs.take i).map (NM u)).map (Gr.J3 out)).map (Value.int .i64)) 3,grp (comB p5 p6 p7 h.s.pA bm l OA oc out),blk p4 [.slice none 0 0,.slice none 0 0] 25] W) fn ⟨0,none,0,[],none,0,[],Y,rfl,hn0,Oo.nil u,fun y hy=>by simp at hy,rfl,rfl,rfl,rfl,rfl,rfl,rfl,rfl,rfl,H⟩ ?_
 clear H hn0
 rintro z f W ⟨i,RA,cR,l,OA,oc,out,hi,rfl,hnum,hoo,hkn,hout,f4,f5,f7,f8,f9,f26,f27,f28,H⟩
 by_cases hlt:i<fn
 ·obtain⟨x,hx⟩:∃x,xs[i]? =some x:=⟨_,Ar Y⟩
  obtain⟨b,o,hFA,_,hrd⟩:=hS Y
  have hcell:=hrd i x hx
  have hxi:=hxb x (A8 hx)
  obtain⟨mo,hmo,Xr,hkn2,hmap⟩:=Wn hu0 hoo hkn x
  have hts:(xs.take i).map (NM u)++ [NM u x]=(xs.take (i+1)).map (NM u):=by rw[←Jc hx,BU];rfl
  rw[hts]at hkn2 hmap
  have hC:=fun{W:World} hA hE=>hCm (W:=W) (p5:=p5) (p6:=p6) (p7:=p7) (bm:=bm) (l:=l) (OA:=OA) (oc:=oc) hA hE hoo hnum x hxi
  rw[hmo]at hC
  have hout2:out++mo=((xs.take (i+1)).map (NM u)).foldl Gr.come []:=by rw[←hts,Jq,←hout,←hmo];rfl
  generalize Gr.J3 (out++mo) (NM u x)=v at*
  rw[hFA]at f26
  obtain⟨f,rfl⟩:=lv8 f4 f5 f7 f8 f9 f26 f27 f28
  clear f4 f5 f7 f8 f9 f26 f27 f28
  refine gW ?_
  refine xB ?_
  refine Gu mixed ?_;replace H:=H.drew
  refine Eo 0 O O O (fun _ hS=>CB O IU) trivial (lF ?_)
  refine D6 1 4 ?_ ?_
  ·refine lG ?_
   refine kL ?_
   refine MH O O O func195 Ak Ak (hC ((HR.same H.only).KP 1 O) (H.Bl 2 O)) ?_
   rintro e W1 ⟨l',OW,oc',hn',rfl,H'⟩
   refine⟨_,rfl,?_⟩
   have H:=H.DN 2 rfl H';clear H';simp only[Bv]at H
   refine vZ ?_
   intro _ _ H';clear H;have H:=H';clear H'
   refine aH ?_
   clear H;intro RA' cR' _ H;simp only[Bv,Nat.reduceAdd]at H
   refine fZ ?_
   clear H;refine ayJ fun _ H=>?_
   refine jm ?_
   (try simp only[BU]at H);rw[←BU,hmap]at H;exact⟨_,_,Y,rfl,i+1,RA',cR',l',OW,oc',out++mo,Y,rfl,hn',Xr,hkn2,hout2,rfl,rfl,rfl,rfl,rfl,by rw[hFA];rfl,rfl,rfl,H⟩
  ·refine BO O (MH O O O func195 Ak Ak (hC ((HR.same H.only).KP 1 O) (H.Bl 2 O)) ?_)
   rintro e W1 ⟨l',OW,oc',hn',rfl,H'⟩
   refine⟨_,rfl,?_⟩
   have H:=H.DN 2 rfl H';clear H';simp only[Bv]at H
   refine aj ?_
   refine D6 1 5 ?_ ?_
   ·refine lG ?_
    refine vZ ?_
    intro _ _ H';clear H;have H:=H';clear H'
    refine aH ?_
    clear H;intro RA' cR' _ H;simp only[Bv,Nat.reduceAdd]at H
    refine fZ ?_
    clear H;refine ayJ fun _ H=>?_
    refine jm ?_
    (try simp only[BU]at H);rw[←BU,hmap]at H;exact⟨_,_,Y,rfl,i+1,RA',cR',l',OW,oc',out++mo,Y,rfl,hn',Xr,hkn2,hout2,rfl,rfl,rfl,rfl,rfl,by rw[hFA];rfl,rfl,rfl,H⟩
   ·refine BO O (cu ?_)
    intro _ _ H';clear H;have H:=H';clear H'
    refine nS ?_
    clear H;intro RA' cR' _ H;simp only[Bv,Nat.reduceAdd]at H
    refine fZ ?_
    clear H;refine ayJ fun _ H=>?_
    refine jm ?_
    (try simp only[BU]at H);rw[←BU,hmap]at H;exact⟨_,_,Y,rfl,i+1,RA',cR',l',OW,oc',out++mo,Y,rfl,hn',Xr,hkn2,hout2,rfl,rfl,rfl,rfl,rfl,by rw[hFA];rfl,rfl,rfl,H⟩
 ·obtain rfl:i=fn:=Y
  obtain⟨f,rfl⟩:=lv7 f4 f5 f7 f8 f9 f27 f28
  clear f4 f5 f7 f8 f9 f26 f27 f28
  refine je ?_
  refine tC ?_
  have htk:xs.take i=xs:=by rw[←hl];exact DL
  rw[htk]at hkn hout H
  obtain⟨fr,hfr⟩:∃fr,xs.map (NM u)=fr:=⟨_,rfl⟩
  have ark:fr.length=i:=by rw[←hfr,Ci];exact hl
  rw[hfr]at hkn hout H
  obtain⟨rv,hrv⟩:∃rv,fr.map (Gr.J3 out)=rv:=⟨_,rfl⟩
  rw[hrv]at H
  obtain⟨pt,hpt⟩:∃pt,oPt d.cache u=pt:=⟨_,rfl⟩
  have afB:out=Gr.ord pt fr 0:=hout
  clear hout
  replace H:=((H.G6 2 77).aag).order [2,3,1,0,4,5] rfl rfl
  refine Ec (fun z f W=>∃(i':Nat) (NA:Option Addr) (cN:Nat) (ns:List FM) (l:List (Int×Int)) (OA:Option Addr) (oc:Nat) (out:List Int),i'≤out.length∧z=512*n-i'∧Tz l out∧Oo u out∧Kn out fr∧fr.map (Gr.J3 out)=rv∧out=Gr.ord pt fr i'∧ns.length=i'∧ns.map (fun x=>(x.ps,x.ds))=(out.take i').map (fun y=>((pt y).map (Gr.J3 out),O5 d.cache y))∧(∀y∈out.take i',Kn out (pt y))∧(∀x∈ns,x.n≤63∧x.m≤16384)∧f 4=ptr p4∧f 5=ptr p5∧f 7=ptr p7∧f 8= .func (.func 195) #[] [ptr p5,ptr p6,ptr p7].toArray∧f 9=ptr p9∧f 12= .int .i64 i'∧
   Heap w [] [blk p9 [.slice RA i cR,.slice NA i' cN] 25,Dw 1 (.slice RA i cR) i (rv.map (Value.int .i64)) 3,Dw 2 (.slice NA i' cN) i' ((ML ns).map C1.v) 77,grp (ns.map J4),grp (comB p5 p6 p7 h.s.pA bm l OA oc out),blk p4 [.slice none 0 0,.slice none 0 0] 25] W) (512*n) ⟨0,none,0,[],l,OA,oc,out,Y,rfl,hnum,hoo,hkn,hrv,afB,rfl,rfl,fun y hy=>by simp at hy,J,rfl,rfl,rfl,rfl,rfl,rfl,H⟩ ?_
  clear H hnum hoo hkn hrv afB l OA oc out
  rintro z f W ⟨i',NA,cN,ns,l,OA,oc,out,hi',rfl,hnum,hoo,hkn,hrv,hord,afR,YM,alN,aa4,f4,f5,f7,f8,f9,f12,H⟩
  have hlo:=hol hoo
  by_cases hlt2:i'<out.length
  ·obtain⟨y,hy⟩:∃y,out[i']? =some y:=⟨_,Ar hlt2⟩
   have hym:=A8 hy
   obtain⟨hy0,hyu⟩:=hoo.us y hym
   have hyp:=hu1 y hyu
   obtain⟨ayy,ayz,hyh⟩:=Ob.L8 hyp
   have hpb:=Ob.NG hW y
   obtain⟨np,hnp⟩:=Bo hpb.1
   obtain⟨nq,hnq⟩:=Bo hpb.2.2.1
   have hP1:=fun{W:World} hE=>hPl (W:=W) hE y ⟨Y,Y⟩
   rw[hyp]at hP1
   obtain⟨qa,rfl⟩:=(Heap.start (H.Bl 4 rfl)).JC 4 rfl Y
   obtain⟨f,rfl⟩:=PX f4 f5 f7 f8 f9 f12
   clear f4 f5 f7 f8 f9 f12
   refine fJ ?_
   refine BD (Heap.start (H.Bl 4 O)) 3 O O O Fg (eU ?_)
   refine eX ?_
   refine Aw (Ea H O LV fun p13 _ H=>Au (AP ?_))
   refine Jj (fun f W=>f 4=ptr p4∧f 5=ptr p5∧f 7=ptr p7∧f 8= .func (.func 195) #[] [ptr p5,ptr p6,ptr p7].toArray∧f 9=ptr p9∧f 12= .int .i64 i'∧f 13=ptr p13∧(∃Zf,f 14=ptr Zf∧Heap w [] [blk Zf [.int .i64 np,.int .i64 nq] 205,blk p13 [.slice none 0 0,.slice none 0 0] 77,blk p9 [.slice RA i cR,.slice NA i' cN] 25,Dw 1 (.slice RA i cR) i (rv.map (Value.int .i64)) 3,Dw 2 (.slice NA i' cN) i' ((ML ns).map C1.v) 77,grp (ns.map J4),grp (comB p5 p6 p7 h.s.pA bm l (some ⟨qa,0,none⟩) oc out),blk p4 [.slice none 0 0,.slice none 0 0] 25] W)) ?_ ?_
   ·refine Gu mixed ?_;replace H:=H.drew
    refine Dj 2 O O O (fun _ hS=>BP (v:= .int _ _) O) trivial ?_
    refine TM 0 1 9 Ak ?_ ?_ ?_
    ·refine vV ?_
     refine D6 1 9 ?_ ?_
     ·refine BO O (BD (Heap.start (H.Bl 5 O)) 3 O O O Fg (aj ?_))
      refine iW ?_
      refine D6 4 9 ?_ ?_
      ·refine uZ ?_
       refine D6 5 9 ?_ ?_
       ·refine BO O (dK ?_)
        rintro e W1 ⟨⟨P,D,rfl,Vd⟩,H'⟩
        refine⟨_,rfl,?_⟩
        obtain⟨rfl,rfl⟩:=Vd rfl;have H:=H.same H';clear H'
        refine aj ?_
        refine aA ?_
        refine Bd 9 O (Ea H O FK fun Zf _ H=>qC ?_)
        refine Ov H 0 O O O O O O O DF ?_
        clear H;refine ayJ fun _ H=>?_
        refine jR ?_
        rw[hnp,hnq]at H;exact⟨rfl,rfl,rfl,rfl,rfl,rfl,rfl,_,rfl,H⟩
       ·refine BO O (Ea H O FK fun Zf _ H=>nO ?_)
        rintro e W1 ⟨⟨P,D,rfl,Vd⟩,H'⟩
        refine⟨_,rfl,?_⟩
        obtain⟨rfl,rfl⟩:=Vd rfl;have H:=H.same H';clear H'
        refine qK ?_
        clear H;refine ayJ fun _ H=>?_
        refine jR ?_
        rw[hnp,hnq]at H;exact⟨rfl,rfl,rfl,rfl,rfl,rfl,rfl,_,rfl,H⟩
      ·refine BO O (Ea H O FK fun Zf _ H=>kL ?_)
       refine iT ?_
       refine nO ?_
       rintro e W1 ⟨⟨P,D,rfl,Vd⟩,H'⟩
       refine⟨_,rfl,?_⟩
       obtain⟨rfl,rfl⟩:=Vd rfl;have H:=H.same H';clear H'
       refine qK ?_
       clear H;refine ayJ fun _ H=>?_
       refine jR ?_
       rw[hnp,hnq]at H;exact⟨rfl,rfl,rfl,rfl,rfl,rfl,rfl,_,rfl,H⟩
     ·refine BO O (Ea H O FK fun Zf _ H=>tH ?_)
      refine uT ?_
      refine Bd 4 O (iT ?_)
      refine nO ?_
      rintro e W1 ⟨⟨P,D,rfl,Vd⟩,H'⟩
      refine⟨_,rfl,?_⟩
      obtain⟨rfl,rfl⟩:=Vd rfl;have H:=H.same H';clear H'
      refine qK ?_
      clear H;refine ayJ fun _ H=>?_
      refine jR ?_
      rw[hnp,hnq]at H;exact⟨rfl,rfl,rfl,rfl,rfl,rfl,rfl,_,rfl,H⟩
    ·refine BO O (BD (Heap.start (H.Bl 5 O)) 3 O O O Fg (aj ?_))
     refine iW ?_
     refine TM 0 4 9 Ak ?_ ?_ ?_
     ·refine vV ?_
      refine D6 4 9 ?_ ?_
      ·refine uZ ?_
       refine D6 5 9 ?_ ?_
       ·refine BO O (dK ?_)
        rintro e W1 ⟨⟨P,D,rfl,Vd⟩,H'⟩
        refine⟨_,rfl,?_⟩
        obtain⟨rfl,rfl⟩:=Vd rfl;have H:=H.same H';clear H'
        refine aj ?_
        refine aA ?_
        refine Bd 9 O (Ea H O FK fun Zf _ H=>qC ?_)
        refine Ov H 0 O O O O O O O DF ?_
        clear H;refine ayJ fun _ H=>?_
        refine jR ?_
        rw[hnp,hnq]at H;exact⟨rfl,rfl,rfl,rfl,rfl,rfl,rfl,_,rfl,H⟩
       ·refine BO O (Ea H O FK fun Zf _ H=>nO ?_)
        rintro e W1 ⟨⟨P,D,rfl,Vd⟩,H'⟩
        refine⟨_,rfl,?_⟩
        obtain⟨rfl,rfl⟩:=Vd rfl;have H:=H.same H';clear H'
        refine qK ?_
        clear H;refine ayJ fun _ H=>?_
        refine jR ?_
        rw[hnp,hnq]at H;exact⟨rfl,rfl,rfl,rfl,rfl,rfl,rfl,_,rfl,H⟩
      ·refine BO O (Ea H O FK fun Zf _ H=>kL ?_)
       refine iT ?_
       refine nO ?_
       rintro e W1 ⟨⟨P,D,rfl,Vd⟩,H'⟩
       refine⟨_,rfl,?_⟩
       obtain⟨rfl,rfl⟩:=Vd rfl;have H:=H.same H';clear H'
       refine qK ?_
       clear H;refine ayJ fun _ H=>?_
       refine jR ?_
       rw[hnp,hnq]at H;exact⟨rfl,rfl,rfl,rfl,rfl,rfl,rfl,_,rfl,H⟩
     ·refine uZ ?_
      refine D6 0 9 ?_ ?_
      ·refine vV ?_
       refine D6 5 9 ?_ ?_
       ·refine BO O (dK ?_)
        rintro e W1 ⟨⟨P,D,rfl,Vd⟩,H'⟩
        refine⟨_,rfl,?_⟩
        obtain⟨rfl,rfl⟩:=Vd rfl;have H:=H.same H';clear H'
        refine aj ?_
        refine aA ?_
        refine Bd 9 O (Ea H O FK fun Zf _ H=>qC ?_)
        refine Ov H 0 O O O O O O O DF ?_
        clear H;refine ayJ fun _ H=>?_
        refine jR ?_
        rw[hnp,hnq]at H;exact⟨rfl,rfl,rfl,rfl,rfl,rfl,rfl,_,rfl,H⟩
       ·refine BO O (Ea H O FK fun Zf _ H=>nO ?_)
        rintro e W1 ⟨⟨P,D,rfl,Vd⟩,H'⟩
        refine⟨_,rfl,?_⟩
        obtain⟨rfl,rfl⟩:=Vd rfl;have H:=H.same H';clear H'
        refine qK ?_
        clear H;refine ayJ fun _ H=>?_
        refine jR ?_
        rw[hnp,hnq]at H;exact⟨rfl,rfl,rfl,rfl,rfl,rfl,rfl,_,rfl,H⟩
      ·refine BO O (Ea H O FK fun Zf _ H=>aj ?_)
       refine Bd 0 O (oz ?_)
       refine nO ?_
       rintro e W1 ⟨⟨P,D,rfl,Vd⟩,H'⟩
       refine⟨_,rfl,?_⟩
       obtain⟨rfl,rfl⟩:=Vd rfl;have H:=H.same H';clear H'
       refine qK ?_
       clear H;refine ayJ fun _ H=>?_
       refine jR ?_
       rw[hnp,hnq]at H;exact⟨rfl,rfl,rfl,rfl,rfl,rfl,rfl,_,rfl,H⟩
     ·refine BO O (Ea H O FK fun Zf _ H=>aj ?_)
      refine D6 0 4 ?_ ?_
      ·refine BO O (oz ?_)
       refine kL ?_
       refine iT ?_
       refine nO ?_
       rintro e W1 ⟨⟨P,D,rfl,Vd⟩,H'⟩
       refine⟨_,rfl,?_⟩
       obtain⟨rfl,rfl⟩:=Vd rfl;have H:=H.same H';clear H'
       refine qK ?_
       clear H;refine ayJ fun _ H=>?_
       refine jR ?_
       rw[hnp,hnq]at H;exact⟨rfl,rfl,rfl,rfl,rfl,rfl,rfl,_,rfl,H⟩
      ·refine BO O (iT ?_)
       refine aj ?_
       refine Bd 0 O (oz ?_)
       refine nO ?_
       rintro e W1 ⟨⟨P,D,rfl,Vd⟩,H'⟩
       refine⟨_,rfl,?_⟩
       obtain⟨rfl,rfl⟩:=Vd rfl;have H:=H.same H';clear H'
       refine qK ?_
       clear H;refine ayJ fun _ H=>?_
       refine jR ?_
       rw[hnp,hnq]at H;exact⟨rfl,rfl,rfl,rfl,rfl,rfl,rfl,_,rfl,H⟩
    ·refine BO O (Ea H O FK fun Zf _ H=>aj ?_)
     refine D6 0 1 ?_ ?_
     ·refine BO O (oz ?_)
      refine tH ?_
      refine uT ?_
      refine Bd 4 O (iT ?_)
      refine nO ?_
      rintro e W1 ⟨⟨P,D,rfl,Vd⟩,H'⟩
      refine⟨_,rfl,?_⟩
      obtain⟨rfl,rfl⟩:=Vd rfl;have H:=H.same H';clear H'
      refine qK ?_
      clear H;refine ayJ fun _ H=>?_
      refine jR ?_
      rw[hnp,hnq]at H;exact⟨rfl,rfl,rfl,rfl,rfl,rfl,rfl,_,rfl,H⟩
     ·refine BO O (uT ?_)
      refine D6 0 4 ?_ ?_
      ·refine BO O (oz ?_)
       refine kL ?_
       refine iT ?_
       refine nO ?_
       rintro e W1 ⟨⟨P,D,rfl,Vd⟩,H'⟩
       refine⟨_,rfl,?_⟩
       obtain⟨rfl,rfl⟩:=Vd rfl;have H:=H.same H';clear H'
       refine qK ?_
       clear H;refine ayJ fun _ H=>?_
       refine jR ?_
       rw[hnp,hnq]at H;exact⟨rfl,rfl,rfl,rfl,rfl,rfl,rfl,_,rfl,H⟩
      ·refine BO O (iT ?_)
       refine aj ?_
       refine Bd 0 O (oz ?_)
       refine nO ?_
       rintro e W1 ⟨⟨P,D,rfl,Vd⟩,H'⟩
       refine⟨_,rfl,?_⟩
       obtain⟨rfl,rfl⟩:=Vd rfl;have H:=H.same H';clear H'
       refine qK ?_
       clear H;refine ayJ fun _ H=>?_
       refine jR ?_
       rw[hnp,hnq]at H;exact⟨rfl,rfl,rfl,rfl,rfl,rfl,rfl,_,rfl,H⟩
   clear H
   rintro f W ⟨f4,f5,f7,f8,f9,f12,f13,Zf,f14,H⟩
   obtain⟨f,rfl⟩:=lv8 f4 f5 f7 f8 f9 f12 f13 f14
   clear f4 f5 f7 f8 f9 f12 f13 f14
   have hpr:∀k:Nat,k<np→(Ob.ptrs d.cache y)[k]? =some (Ob.pAt d.cache (y+(1+(k:Int)))):=fun k hk=>aja hpb.1 Y
   have hpl:(Ob.ptrs d.cache y).length=np:=by unfold Ob.ptrs;rw[Ob.Oe,hnp];rfl
   have aje:pt y=(Ob.ptrs d.cache y).map (NM u):=by rw[←hpt];rfl
   have hpe:∀k:Nat,k≤np→(pt y).take k=((Ob.ptrs d.cache y).take k).map (NM u):=fun k _=>by rw[aje,NU]
   have asA:(pt y).length=np:=by rw[aje,Ci,hpl]
   have asa:=Ob.aaj hW y
   refine AO (AP (Aw (BR O ad7 (mQ ?_))))
   refine tV ?_
   replace H:=(H.G6 1 3).order [2,0,1,3,4,5,6,7,8] rfl rfl
   have hmz:out=((pt y).take 0).foldl Gr.come out:=rfl
   have al0:Kn out ((pt y).take 0):=fun z hz=>by simp at hz
   have hex:∃mo:List Int,out=out++mo:=⟨[],J⟩
   refine Ec (fun z f W=>∃(k:Nat) (PA:Option Addr) (cP:Nat) (l:List (Int×Int)) (OA:Option Addr) (oc:Nat) (out':List Int),k≤np∧z=np-k∧Tz l out'∧Oo u out'∧(∃mo,out'=out++mo)∧Kn out' ((pt y).take k)∧out'=((pt y).take k).foldl Gr.come out∧f 4=ptr p4∧f 5=ptr p5∧f 7=ptr p7∧f 8= .func (.func 195) #[] [ptr p5,ptr p6,ptr p7].toArray∧f 9=ptr p9∧f 12= .int .i64 i'∧f 13=ptr p13∧f 14=ptr Zf∧f 57= .int .i64 np∧f 58= .int .i64 k∧
    Heap w [] [blk p13 [.slice PA k cP,.slice none 0 0] 77,Dw 1 (.slice PA k cP) k ((((pt y).take k).map (Gr.J3 out')).map (Value.int .i64)) 3,blk Zf [.int .i64 np,.int .i64 nq] 205,blk p9 [.slice RA i cR,.slice NA i' cN] 25,Dw 1 (.slice RA i cR) i (rv.map (Value.int .i64)) 3,Dw 2 (.slice NA i' cN) i' ((ML ns).map C1.v) 77,grp (ns.map J4),grp (comB p5 p6 p7 h.s.pA bm l OA oc out'),blk p4 [.slice none 0 0,.slice none 0 0] 25] W) np ⟨0,none,0,l,some ⟨qa,0,none⟩,oc,out,Y,rfl,hnum,hoo,hex,al0,hmz,rfl,rfl,rfl,rfl,rfl,rfl,rfl,rfl,rfl,rfl,H⟩ ?_
   clear H hmz al0 hex
   rintro z f W ⟨k,PA,cP,l,OA,oc,out',hk,rfl,Qi,Rq,hex,hkn',Me,f4,f5,f7,f8,f9,f12,f13,f14,f57,f58,H⟩
   have avf:=hol Rq
   have hlo1:i'<out'.length:=by obtain⟨mo,rfl⟩:=hex;rw[Cm];omega
   have hy':out'[i']? =some y:=by obtain⟨mo,rfl⟩:=hex;rw[Ej hlt2];exact hy
   by_cases hlk:k<np
   ·have hq:=hpr k hlk
    have hqm:=A8 hq
    have hqb:=asa _ hqm
    have hPt:=fun{W:World} hE=>ai3 (g:=g) (d:=d) (w:=W) hE hW Y y k hyh ⟨Y,Y⟩
    obtain⟨qv,hqv⟩:∃qv,Ob.pAt d.cache (y+(1+(k:Int)))=qv:=⟨_,rfl⟩
    rw[hqv]at hq hqb hPt
    obtain⟨mo,hmo,Xr,hkn2,hmap⟩:=Wn hu0 Rq hkn' qv
    have hts:(pt y).take k++ [NM u qv]=(pt y).take (k+1):=Jc (by rw[aje,BG,hq];rfl)
    rw[hts]at hkn2 hmap
    have hC:=fun{W:World} hA hE=>hCm (W:=W) (p5:=p5) (p6:=p6) (p7:=p7) (bm:=bm) (l:=l) (OA:=OA) (oc:=oc) hA hE Rq Qi qv Y
    rw[hmo]at hC
    have hout2:out'++mo=((pt y).take (k+1)).foldl Gr.come out:=by rw[←hts,Jq,←Me,←hmo];rfl
    have ahd:∃m2,out'++mo=out++m2:=by obtain⟨m1,rfl⟩:=hex;exact⟨m1++mo,by rw[DI]⟩
    generalize Gr.J3 (out'++mo) (NM u qv)=v at*
    obtain⟨qb,rfl⟩:=(Heap.start (H.Bl 7 rfl)).JC 4 rfl Y
    obtain⟨f,rfl⟩:=asl f4 f5 f7 f8 f9 f12 f13 f14 f57 f58
    clear f4 f5 f7 f8 f9 f12 f13 f14 f57 f58
    refine lW ?_
    refine qw ?_
    refine Jj (fun f W=>f 4=ptr p4∧f 5=ptr p5∧f 7=ptr p7∧f 8= .func (.func 195) #[] [ptr p5,ptr p6,ptr p7].toArray∧f 9=ptr p9∧f 12= .int .i64 i'∧f 13=ptr p13∧f 14=ptr Zf∧f 57= .int .i64 np∧f 58= .int .i64 k∧f 17= .int .i64 qv∧Heap w [] [blk p13 [.slice PA k cP,.slice none 0 0] 77,Dw 1 (.slice PA k cP) k ((((pt y).take k).map (Gr.J3 out')).map (Value.int .i64)) 3,blk Zf [.int .i64 np,.int .i64 nq] 205,blk p9 [.slice RA i cR,.slice NA i' cN] 25,Dw 1 (.slice RA i cR) i (rv.map (Value.int .i64)) 3,Dw 2 (.slice NA i' cN) i' ((ML ns).map C1.v) 77,grp (ns.map J4),grp (comB p5 p6 p7 h.s.pA bm l (some ⟨qb,0,none⟩) oc out'),blk p4 [.slice none 0 0,.slice none 0 0] 25] W) ?_ ?_
    ·refine Gu mixed ?_;replace H:=H.drew
     refine Dj 3 O O O (fun _ hS=>BP (v:= .int _ _) O) trivial (lT ?_)
     refine D6 0 2 ?_ ?_
     ·refine BO O (BD (Heap.start (H.Bl 7 O)) 0 O O O Om (aj ?_))
      refine D6 1 2 ?_ ?_
      ·refine BO O (BI H O (WM ((HR.same H.only).KP 1 O)) (QX O) fun W1 H=>aj ?_)
       refine Bd 2 O (uM ?_)
       refine Bd 5 O (lC ?_)
       refine o7 ?_
       refine BI H O (hPt ((HR.same H.only).IQ 1 O)) (XQ O) fun W1 H=>rC ?_
       exact⟨rfl,rfl,rfl,rfl,rfl,rfl,rfl,rfl,rfl,rfl,rfl,H⟩
      ·refine BO O (uM ?_)
       refine D6 1 5 ?_ ?_
       ·refine BO O (BI H O (WM ((HR.same H.only).KP 1 O)) (QX O) fun W1 H=>iE ?_)
        refine lC ?_
        refine o7 ?_
        refine BI H O (hPt ((HR.same H.only).IQ 1 O)) (XQ O) fun W1 H=>rC ?_
        exact⟨rfl,rfl,rfl,rfl,rfl,rfl,rfl,rfl,rfl,rfl,rfl,H⟩
       ·refine BO O (lC ?_)
        refine tH ?_
        refine BI H O (WM ((HR.same H.only).KP 1 O)) (QX O) fun W1 H=>o7 ?_
        refine BI H O (hPt ((HR.same H.only).IQ 1 O)) (XQ O) fun W1 H=>rC ?_
        exact⟨rfl,rfl,rfl,rfl,rfl,rfl,rfl,rfl,rfl,rfl,rfl,H⟩
     ·refine BO O (uM ?_)
      refine D6 0 5 ?_ ?_
      ·refine BO O (BD (Heap.start (H.Bl 7 O)) 0 O O O Om (aj ?_))
       refine D6 1 5 ?_ ?_
       ·refine BO O (BI H O (WM ((HR.same H.only).KP 1 O)) (QX O) fun W1 H=>iE ?_)
        refine lC ?_
        refine o7 ?_
        refine BI H O (hPt ((HR.same H.only).IQ 1 O)) (XQ O) fun W1 H=>rC ?_
        exact⟨rfl,rfl,rfl,rfl,rfl,rfl,rfl,rfl,rfl,rfl,rfl,H⟩
       ·refine BO O (lC ?_)
        refine tH ?_
        refine BI H O (WM ((HR.same H.only).KP 1 O)) (QX O) fun W1 H=>o7 ?_
        refine BI H O (hPt ((HR.same H.only).IQ 1 O)) (XQ O) fun W1 H=>rC ?_
        exact⟨rfl,rfl,rfl,rfl,rfl,rfl,rfl,rfl,rfl,rfl,rfl,H⟩
      ·refine BO O (lC ?_)
       refine aj ?_
       refine Bd 0 O (BD (Heap.start (H.Bl 7 O)) 0 O O O Om (tH ?_))
       refine BI H O (WM ((HR.same H.only).KP 1 O)) (QX O) fun W1 H=>o7 ?_
       refine BI H O (hPt ((HR.same H.only).IQ 1 O)) (XQ O) fun W1 H=>rC ?_
       exact⟨rfl,rfl,rfl,rfl,rfl,rfl,rfl,rfl,rfl,rfl,rfl,H⟩
    clear H
    rintro f W ⟨f4,f5,f7,f8,f9,f12,f13,f14,f57,f58,f17,H⟩
    obtain⟨f,rfl⟩:=ar4 f4 f5 f7 f8 f9 f12 f13 f14 f57 f58 f17
    clear f4 f5 f7 f8 f9 f12 f13 f14 f57 f58 f17
    refine AO ?_
    refine Gu mixed ?_;replace H:=H.drew
    refine Eo 0 O O O (fun _ hS=>CB O Iz) trivial (lF ?_)
    refine D6 1 4 ?_ ?_
    ·refine lG ?_
     refine kL ?_
     refine MH O O O func195 Ak Ak (hC ((HR.same H.only).KP 1 O) (H.Bl 7 O)) ?_
     rintro e W1 ⟨l',OW,oc',hn',rfl,H'⟩
     refine⟨_,rfl,?_⟩
     have H:=H.DN 7 rfl H';clear H';simp only[Bv]at H
     refine vZ ?_
     intro _ _ H';clear H;have H:=H';clear H'
     refine aH ?_
     clear H;intro PA' cP' _ H;simp only[Bv,Nat.reduceAdd]at H
     refine fK ?_
     clear H;refine ayJ fun _ H=>?_
     refine jm ?_
     (try simp only[BU]at H);rw[←BU,hmap]at H;exact⟨_,_,Y,rfl,k+1,PA',cP',l',OW,oc',out'++mo,Y,rfl,hn',Xr,ahd,hkn2,hout2,rfl,rfl,rfl,rfl,rfl,rfl,rfl,rfl,rfl,rfl,H⟩
    ·refine BO O (MH O O O func195 Ak Ak (hC ((HR.same H.only).KP 1 O) (H.Bl 7 O)) ?_)
     rintro e W1 ⟨l',OW,oc',hn',rfl,H'⟩
     refine⟨_,rfl,?_⟩
     have H:=H.DN 7 rfl H';clear H';simp only[Bv]at H
     refine aj ?_
     refine D6 1 5 ?_ ?_
     ·refine lG ?_
      refine vZ ?_
      intro _ _ H';clear H;have H:=H';clear H'
      refine aH ?_
      clear H;intro PA' cP' _ H;simp only[Bv,Nat.reduceAdd]at H
      refine fK ?_
      clear H;refine ayJ fun _ H=>?_
      refine jm ?_
      (try simp only[BU]at H);rw[←BU,hmap]at H;exact⟨_,_,Y,rfl,k+1,PA',cP',l',OW,oc',out'++mo,Y,rfl,hn',Xr,ahd,hkn2,hout2,rfl,rfl,rfl,rfl,rfl,rfl,rfl,rfl,rfl,rfl,H⟩
     ·refine BO O (cu ?_)
      intro _ _ H';clear H;have H:=H';clear H'
      refine nS ?_
      clear H;intro PA' cP' _ H;simp only[Bv,Nat.reduceAdd]at H
      refine fK ?_
      clear H;refine ayJ fun _ H=>?_
      refine jm ?_
      (try simp only[BU]at H);rw[←BU,hmap]at H;exact⟨_,_,Y,rfl,k+1,PA',cP',l',OW,oc',out'++mo,Y,rfl,hn',Xr,ahd,hkn2,hout2,rfl,rfl,rfl,rfl,rfl,rfl,rfl,rfl,rfl,rfl,H⟩
   ·obtain rfl:k=np:=Y
    have htp:(pt y).take k=pt y:=by rw[←asA];exact DL
    rw[htp]at hkn' Me H
    have hdl:(O5 d.cache y).length=nq:=by rw[Z7,hnq];rfl
    have hdr:∀j:Nat,j<nq→(O5 d.cache y)[j]? =some (Nv.get d.cache (y+(1+Ob.hp d.cache y+(j:Int)))):=fun j hj=>amC hpb.2.2.1 Y
    obtain⟨pv,hpv⟩:∃pv,(pt y).map (Gr.J3 out')=pv:=⟨_,rfl⟩
    rw[hpv]at H
    obtain⟨f,rfl⟩:=asl f4 f5 f7 f8 f9 f12 f13 f14 f57 f58
    clear f4 f5 f7 f8 f9 f12 f13 f14 f57 f58
    refine je ?_
    refine AP (Aw (BR O aiP (BD H 2 O O O GU (tV ?_))))
    replace H:=(H.G6 1 26).order [1,0,2,3,4,5,6,7,8,9] rfl rfl
    refine Ec (fun z f W=>∃(j:Nat) (DB:Option Addr) (dD:Nat),j≤nq∧z=nq-j∧f 4=ptr p4∧f 5=ptr p5∧f 7=ptr p7∧f 8= .func (.func 195) #[] [ptr p5,ptr p6,ptr p7].toArray∧f 9=ptr p9∧f 12= .int .i64 i'∧f 13=ptr p13∧f 82= .int .i64 nq∧f 83= .int .i64 j∧
     Heap w [] [blk p13 [.slice PA k cP,.slice DB j dD] 77,Dw 1 (.slice DB j dD) j (((O5 d.cache y).take j).map (Value.int .u64)) 26,Dw 1 (.slice PA k cP) k (pv.map (Value.int .i64)) 3,blk Zf [.int .i64 k,.int .i64 nq] 205,blk p9 [.slice RA i cR,.slice NA i' cN] 25,Dw 1 (.slice RA i cR) i (rv.map (Value.int .i64)) 3,Dw 2 (.slice NA i' cN) i' ((ML ns).map C1.v) 77,grp (ns.map J4),grp (comB p5 p6 p7 h.s.pA bm l OA oc out'),blk p4 [.slice none 0 0,.slice none 0 0] 25] W) nq ⟨0,none,0,Y,rfl,rfl,rfl,rfl,rfl,rfl,rfl,rfl,rfl,rfl,H⟩ ?_
    clear H
    rintro z f W ⟨j,DB,dD,hj,rfl,f4,f5,f7,f8,f9,f12,f13,f82,f83,H⟩
    by_cases hlj:j<nq
    ·have hq:=hdr j hlj
     have hDa:=fun{W:World} hE=>alR (g:=g) (d:=d) (w:=W) hE hW Y y j hyh ⟨Y,Y⟩
     have hgb:=Ob.QG hW (y+(1+Ob.hp d.cache y+(j:Int)))
     generalize Nv.get d.cache (y+(1+Ob.hp d.cache y+(j:Int)))=v at*
     obtain⟨qb,rfl⟩:=(Heap.start (H.Bl 8 rfl)).JC 4 rfl Y
     obtain⟨f,rfl⟩:=lv9 f4 f5 f7 f8 f9 f12 f13 f82 f83
     clear f4 f5 f7 f8 f9 f12 f13 f82 f83
     refine lW ?_
     refine qw ?_
     refine Jj (fun f W=>f 4=ptr p4∧f 5=ptr p5∧f 7=ptr p7∧f 8= .func (.func 195) #[] [ptr p5,ptr p6,ptr p7].toArray∧f 9=ptr p9∧f 12= .int .i64 i'∧f 13=ptr p13∧f 82= .int .i64 nq∧f 83= .int .i64 j∧f 20= .int .u64 v∧Heap w [] [blk p13 [.slice PA k cP,.slice DB j dD] 77,Dw 1 (.slice DB j dD) j (((O5 d.cache y).take j).map (Value.int .u64)) 26,Dw 1 (.slice PA k cP) k (pv.map (Value.int .i64)) 3,blk Zf [.int .i64 k,.int .i64 nq] 205,blk p9 [.slice RA i cR,.slice NA i' cN] 25,Dw 1 (.slice RA i cR) i (rv.map (Value.int .i64)) 3,Dw 2 (.slice NA i' cN) i' ((ML ns).map C1.v) 77,grp (ns.map J4),grp (comB p5 p6 p7 h.s.pA bm l (some ⟨qb,0,none⟩) oc out'),blk p4 [.slice none 0 0,.slice none 0 0] 25] W) ?_ ?_
     ·refine Gu mixed ?_;replace H:=H.drew
      refine Dj 3 O O O (fun _ hS=>BP (v:= .int _ _) O) trivial (lT ?_)
      refine D6 0 2 ?_ ?_
      ·refine BO O (BD (Heap.start (H.Bl 8 O)) 0 O O O Om (aj ?_))
       refine D6 1 2 ?_ ?_
       ·refine BO O (BI H O (WM ((HR.same H.only).KP 1 O)) (QX O) fun W1 H=>aj ?_)
        refine Bd 2 O (uH ?_)
        refine Bd 5 O (lu ?_)
        refine o7 ?_
        refine BI H O (hDa ((HR.same H.only).IQ 1 O)) (aa2 O) fun W1 H=>rC ?_
        exact⟨rfl,rfl,rfl,rfl,rfl,rfl,rfl,rfl,rfl,rfl,H⟩
       ·refine BO O (uH ?_)
        refine D6 1 5 ?_ ?_
        ·refine BO O (BI H O (WM ((HR.same H.only).KP 1 O)) (QX O) fun W1 H=>iE ?_)
         refine lu ?_
         refine o7 ?_
         refine BI H O (hDa ((HR.same H.only).IQ 1 O)) (aa2 O) fun W1 H=>rC ?_
         exact⟨rfl,rfl,rfl,rfl,rfl,rfl,rfl,rfl,rfl,rfl,H⟩
        ·refine BO O (lu ?_)
         refine tH ?_
         refine BI H O (WM ((HR.same H.only).KP 1 O)) (QX O) fun W1 H=>o7 ?_
         refine BI H O (hDa ((HR.same H.only).IQ 1 O)) (aa2 O) fun W1 H=>rC ?_
         exact⟨rfl,rfl,rfl,rfl,rfl,rfl,rfl,rfl,rfl,rfl,H⟩
      ·refine BO O (uH ?_)
       refine D6 0 5 ?_ ?_
       ·refine BO O (BD (Heap.start (H.Bl 8 O)) 0 O O O Om (aj ?_))
        refine D6 1 5 ?_ ?_
        ·refine BO O (BI H O (WM ((HR.same H.only).KP 1 O)) (QX O) fun W1 H=>iE ?_)
         refine lu ?_
         refine o7 ?_
         refine BI H O (hDa ((HR.same H.only).IQ 1 O)) (aa2 O) fun W1 H=>rC ?_
         exact⟨rfl,rfl,rfl,rfl,rfl,rfl,rfl,rfl,rfl,rfl,H⟩
        ·refine BO O (lu ?_)
         refine tH ?_
         refine BI H O (WM ((HR.same H.only).KP 1 O)) (QX O) fun W1 H=>o7 ?_
         refine BI H O (hDa ((HR.same H.only).IQ 1 O)) (aa2 O) fun W1 H=>rC ?_
         exact⟨rfl,rfl,rfl,rfl,rfl,rfl,rfl,rfl,rfl,rfl,H⟩
       ·refine BO O (lu ?_)
        refine aj ?_
        refine Bd 0 O (BD (Heap.start (H.Bl 8 O)) 0 O O O Om (tH ?_))
        refine BI H O (WM ((HR.same H.only).KP 1 O)) (QX O) fun W1 H=>o7 ?_
        refine BI H O (hDa ((HR.same H.only).IQ 1 O)) (aa2 O) fun W1 H=>rC ?_
        exact⟨rfl,rfl,rfl,rfl,rfl,rfl,rfl,rfl,rfl,rfl,H⟩
     clear H
     rintro f W ⟨f4,f5,f7,f8,f9,f12,f13,f82,f83,f20,H⟩
     obtain⟨f,rfl⟩:=asl f4 f5 f7 f8 f9 f12 f13 f82 f83 f20
     clear f4 f5 f7 f8 f9 f12 f13 f82 f83 f20
     refine AO (wX ?_)
     clear H;intro _ An cn _ H;simp only[Bv,Nat.reduceAdd]at H
     refine BR O Nc (Ic (u:= .slice _ _ _) H 0 O O O O O O amb ?_)
     clear H;refine ayJ fun _ H=>?_
     refine vG ?_
     rw[Jc hq]at H
     exact⟨_,_,Y,rfl,j+1,_,_,Y,rfl,rfl,rfl,rfl,rfl,rfl,rfl,rfl,rfl,rfl,H⟩
    ·obtain rfl:j=nq:=Y
     have htd:(O5 d.cache y).take j=O5 d.cache y:=by rw[←hdl];exact DL
     rw[htd]at H
     obtain⟨f,rfl⟩:=lv9 f4 f5 f7 f8 f9 f12 f13 f82 f83
     clear f4 f5 f7 f8 f9 f12 f13 f82 f83
     refine je ?_
     refine DR (BR O Gg (BD H 4 O O O Lm (Dn H 0 O O O Xe JR (agy (enc:=C1.v) (zs:=[C1.s PA k cP,C1.s DB j dD]) H 6 O O O O C1.one Y Ak O O O Y underlying23 LV O ?_))))
     clear H;intro _ NA' cN' _ H;simp only[Bv,Nat.reduceAdd]at H
     refine BR O Gg (Ic (u:= .slice _ _ _) H 4 O O O O O O ag6 ?_)
     clear H;refine ayJ fun _ H=>?_
     refine AA (jy ?_)
     replace H:=Heap.agS (H.order [2,1,7,4,5,6,8,9,3,0] rfl rfl:Heap w [] ([_,_]++ [_,_,_,_,_,_,_,_]) _)
     replace H:=H.XW (E:=J4 (FM.mk PA k cP pv DB j dD (O5 d.cache y)))
     replace H:Heap w [] [_,_,_,_,_,_] _:=H.Ew [1,2,3,0,4,5] rfl rfl
     have e1:ns.map J4++ [J4 (FM.mk PA k cP pv DB j dD (O5 d.cache y))]=(ns++ [(FM.mk PA k cP pv DB j dD (O5 d.cache y))]).map J4:=by simp
     rw[e1]at H
     have e2:=Xx ns (FM.mk PA k cP pv DB j dD (O5 d.cache y))
     obtain⟨mo,hmo⟩:=hex
     have alI:Oo u (out++mo):=by rw[←hmo];exact Rq
     have am0:out'.take i'=out.take i':=by rw[hmo,Jo hi']
     have al3:out'.take (i'+1)=out.take i'++ [y]:=by rw[←Jc hy',am0]
     refine⟨_,_,?_,rfl,i'+1,some ⟨NA',0,none⟩,cN',ns++ [(FM.mk PA k cP pv DB j dD (O5 d.cache y))],l,OA,oc,out',Y,rfl,Qi,Rq,by rw[hmo];exact hkn.more mo,by rw[hmo,hkn.map alI];exact hrv,?_,by simp[afR],?_,fun z hz=>?_,fun z hz=>?_,rfl,rfl,rfl,rfl,rfl,rfl,?_⟩
     ·omega
     ·rw[Gr.ord,←hord,hy];exact Me
     ·rw[BU,YM,al3,BU,hmo,abo alI alN,←hmo,←hpv];rfl
     ·rw[al3]at hz
      rcases BJ.1 hz with hz|hz
      ·rw[hmo];exact(alN z hz).more mo
      ·rw[Bf.1 hz];exact hkn'
     ·rcases BJ.1 hz with hz|hz
      ·exact aa4 z hz
      ·rw[Bf.1 hz]
       show k≤63∧j≤16384
       omega
     ·rw[e2];exact H
  ·have hio:i'=out.length:=Y
   obtain⟨f,rfl⟩:=PX f4 f5 f7 f8 f9 f12
   clear f4 f5 f7 f8 f9 f12
   refine fJ ?_
   refine BD (Heap.start (H.Bl 4 O)) 3 O O O Fg (eU ?_)
   refine kH ?_
   refine Aw (Dn H 0 O O O MO Jg (Eh H 5 O O O O O O O Jg ?_))
   clear H;refine ayJ fun _ H=>?_
   refine Au (BH (ZP O (IG H 5 O O O MO Jg) ?_))
   have hto:out.take i'=out:=by rw[hio];exact DL
   rw[hto]at YM
   have hend:=Gr.aeL pt fr i' (by rw[←hord];exact hio.symm)
   rw[←hord]at hend
   have hfb:∀z,-9223372036854775808≤Gr.J3 out z∧Gr.J3 out z≤9223372036854775807:=fun z=>by
    have:=Gr.abR out z hoo.nd;omega
   have hok:=fun G hG=>agp (G:=G) hG (n:=i) (m:=i') (by rw[←hrv,Ci,ark]) afR (H.order [1,2,3,0,4,5] rfl rfl) Y Y (fun p hp=>by
    rw[←hrv]at hp
    obtain⟨z,_,rfl⟩:=BX.1 hp
    exact hfb z) (fun x hx=>by
    obtain⟨h1,h2⟩:=aa4 x hx
    have h3:(x.ps,x.ds)∈out.map (fun y=>((pt y).map (Gr.J3 out),O5 d.cache y)):=by rw[←YM];exact BX.2 ⟨x,hx,rfl⟩
    obtain⟨y,hy,he⟩:=BX.1 h3
    injection he with he1 he2
    refine⟨Y,Y,fun p hp=>?_,fun p hp=>?_⟩
    ·rw[←he1]at hp
     obtain⟨z,_,rfl⟩:=BX.1 hp
     exact hfb z
    ·rw[←he2]at hp
     unfold O5 at hp
     obtain⟨q,_,rfl⟩:=BX.1 hp
     exact Ob.QG hW _)
   exact⟨⟨⟨RA,i,cR,rv,NA,i',cN,ns⟩,out,rfl,hok,⟨by rw[hpt,hfr];exact hend,by rw[hfr];exact hrv.symm,by rw[hpt];exact YM⟩,rfl,hio⟩,H.only⟩
end
end
end
section
section
open Go.RowKit
section
variable{g:Geo}{d:Nv.D}{m n N:Nat}{id:Int}{h:Ko}{w:World}
theorem aht(hE:DW (h.L g d) w)(hO:Ia d m n id h N)(afz:n≤190):
 Calls prog 59 [ptr h.pH].toArray w fun e w'=>(∃g' o,e= .returned (.agg g'.cells.toArray)∧(∀G,(∀i∈G,i<w.heap.size)→LP w' G g')∧Rd d.cache (Gz h.s.U) h.V o g'.rs g'.nodes∧g'.n=8∧g'.m=o.length)∧Only [] w w':=by
 have HR:=Heap.start hE
 have H:=Heap.nil w
 have hWk:=fun{W:World} hE=>akJ (g:=g) (d:=d) (h:=h) (w:=W) hE hO.dev.R8.1 hO.V8.1
 obtain⟨v0,v1,v2,v3,v4,v5,v6,v7,hV8⟩:=O3 hO.V8.1
 have hVm:(h.V.map (Value.int .i64))=[.int .i64 v0,.int .i64 v1,.int .i64 v2,.int .i64 v3,.int .i64 v4,.int .i64 v5,.int .i64 v6,.int .i64 v7]:=by rw[hV8];rfl
 rw[hVm]at hWk
 have hOf:=fun{W:World} (A:Option Addr) hE hS=>aym (g:=g) (d:=d) (h:=h) (w:=W) hE hO afz A 8 8 h.V hS hO.V8.1 Y hO.V8.i64
 refine BM 9 func59 O (Aw (Ea H O O6 fun p2 _ H=>Au (Aw (BF O (BI H O (hWk (HR.same H.only).ents) (awn O) fun W1 H=>Ea H O Vg fun p3 _ H=>wu ?_)))))
 clear H;refine ayJ fun _ H=>?_
 refine Au (AP ?_)
 have hlt:=H.akB
 have hsz:=H.only.size
 refine DR (BF O (AL (ai5 O underlying103 Kz Y) (s_call O (hOf (some ⟨p3,0,none⟩) (HR.same H.only).ents (fun _=>⟨p3,0,rfl,J,H.V3 0 O hVm.symm⟩)) (avH O) ?_)))
 rintro e W1 ⟨⟨g',o,rfl,hok,hrd,hgn,hgm⟩,H'⟩
 refine⟨_,rfl,?_⟩
 have HP:=H.same H';have hOW:=H';clear H H';have H:=Heap.start HP.ents
 refine Eh H 1 O O O O O O O Jg ?_
 clear H;refine ayJ fun _ H=>?_
 refine Au (BH (ZP O (IG H 1 O O O MO Jg) ?_))
 have HW:=HP.whole H
 refine⟨⟨g',o,rfl,fun G hG=>?_,hrd,hgn,hgm⟩,HW.only⟩
 refine((hok (ids [blk p3 [.int .i64 v0,.int .i64 v1,.int .i64 v2,.int .i64 v3,.int .i64 v4,.int .i64 v5,.int .i64 v6,.int .i64 v7] 103,blk p2 [.slice none 0 0,.slice none 0 0] 25]++G) fun i hi=>?_).later H.only fun i hi=>BQ _ hi).mono fun i hi=>C9 _ hi
 rcases BJ.1 hi with h1|h1
 ·exact hlt i h1
 ·exact Gh (hG i h1) hsz
end
end
end
section
section
open Go.RowKit
theorem Rd.right{c:List Int}{u:Int→Bool}{fr o:List Int}{g:NP}{W:World}{G:List Nat}(hW:Ob.SQ c)(hk:LP W G g)(h:Rd c u fr o g.rs g.nodes):Fh g=true∧(∀x∈g.ns,x.n≤63∧x.m≤16384)∧∀x∈g.ns,∃a∈o,(x.n:Int)=Ob.hp c a∧(x.m:Int)=Ob.hq c a:=by
 have hl:g.nodes.length=g.m:=by rw[NP.L6,hk.nl]
 have hrt:=h.rt
 have key:∀x∈g.ns,∃a∈o,(x.n:Int)=Ob.hp c a∧(x.m:Int)=Ob.hq c a:=fun x hx=>by
  have hx2:(x.ps,x.ds)∈g.nodes:=BX.2 ⟨x,hx,rfl⟩
  rw[h.ns]at hx2
  obtain⟨a,ha,he⟩:=BX.1 hx2
  injection he with e1 e2
  have hb:=Ob.NG hW a
  have h1:=(hk.ns.2 x hx).pl
  have h2:=(hk.ns.2 x hx).dl
  refine⟨a,ha,?_,?_⟩
  ·rw[←h1,←e1,Ci]
   unfold oPt Ob.ptrs
   rw[Ci,Ob.Oe];omega
  ·rw[←h2,←e2,Z7];omega
 have hs:∀x∈g.ns,x.n≤63∧x.m≤16384:=fun x hx=>by
  obtain⟨a,_,h1,h2⟩:=key x hx
  have hb:=Ob.NG hW a
  omega
 refine⟨decide_eq_true ⟨fun r hr=>?_,fun x hx=>⟨(hs x hx).1,(hs x hx).2,fun p hp=>?_⟩⟩,hs,key⟩
 ·have:=hrt.1 r hr
  rw[hl]at this;exact this
 ·have:=hrt.2 (x.ps,x.ds) (BX.2 ⟨x,hx,rfl⟩) p hp
  rw[hl]at this;exact this
section
variable{ga gb:Geo}{da db:Nv.D}{ma na Na mb nb Nb:Nat}{ida idb:Int}{ha hb:Ko}{w:World}
theorem aeF(hEa:DW (ha.L ga da) w)(hOa:Ia da ma na ida ha Na)(atn:na≤190)(hca:∀o,Oo (Gz ha.s.U) o→o.length≤1000)(hEb:DW (hb.L gb db) w)(hOb:Ia db mb nb idb hb Nb)(awg:nb≤190)(hcb:∀o,Oo (Gz hb.s.U) o→o.length≤1000):
 Calls prog 13 [ptr ha.pH,ptr hb.pH].toArray w fun e w'=>(∃r o1 o2 rs1 ns1 Xl XH,e= .returned (.bool r)∧Rd da.cache (Gz ha.s.U) ha.V o1 rs1 ns1∧Rd db.cache (Gz hb.s.U) hb.V o2 Xl XH∧(rs1=Xl→ns1=XH→r=true))∧Only [] w w':=by
 have HA:=Heap.start hEa
 have HB:=Heap.start hEb
 have H:=Heap.nil w
 have hFa:=fun{W:World} hE=>aht (g:=ga) (d:=da) (h:=ha) (w:=W) hE hOa atn
 have hFb:=fun{W:World} hE=>aht (g:=gb) (d:=db) (h:=hb) (w:=W) hE hOb awg
 refine BM 10 func13 O (qU ?_)
 refine Aw (BF O (s_call O (hFa (HA.same H.only).ents) (aq0 O) ?_))
 rintro e W1 ⟨⟨a,o1,rfl,hka,hra,han,ham⟩,H'⟩
 refine⟨_,rfl,?_⟩
 have hoA:=H';have H:=H.same H';clear H'
 refine BF O (s_call O (hFb (HB.same H.only).ents) (aq0 O) ?_)
 rintro e W1 ⟨⟨b,o2,rfl,hkb,hrb,hbn,hbm⟩,H'⟩
 refine⟨_,rfl,?_⟩
 have hoB:=H';have H:=H.same H';clear H'
 have hga:=(hka [] J).later hoB J
 have hgb:=hkb [] J
 obtain⟨ra,sa,_⟩:=hra.right hOa.dev.dv.U hga
 obtain⟨rb,sb,_⟩:=hrb.right hOb.dev.dv.U hgb
 have hua:Oo (Gz ha.s.U) o1:=⟨hra.ord.nodup,fun x hx=>⟨hra.ord.pos x hx,hra.used x hx⟩⟩
 have hub:Oo (Gz hb.s.U) o2:=⟨hrb.ord.nodup,fun x hx=>⟨hrb.ord.pos x hx,hrb.used x hx⟩⟩
 have hAl:=fun W (hO:Only [] _ W)=>as8 a b W (hga.later hO J) (hgb.later hO J) ⟨Y,by rw[ham];exact hca o1 hua,fun x hx=>by have:=sa x hx;omega⟩ ⟨Y,by rw[hbm];exact hcb o2 hub,fun x hx=>by have:=sb x hx;omega⟩
 refine s_call O (hAl _ (Only.refl _ _)) (axV O) ?_
 rintro e W1 ⟨⟨r,rfl,hr0,hr1⟩,H'⟩
 refine⟨_,rfl,?_⟩
 have H:=H.same H';clear H'
 refine gZ ?_
 obtain⟨oa,ob,hoa,hob,hr⟩:=hr1 (by rw[ra,rb];rfl)
 refine⟨⟨r,o1,o2,_,_,_,_,rfl,hra,hrb,fun e1 e2=>?_⟩,H.only⟩
 rw[hr]
 rw[←e1,←e2]at hob
 have:=hoa.same hob
 subst this
 exact decide_eq_true ⟨by rw[e1],by rw[e2]⟩
end
end
end
section
section
open Go.RowKit
def U4(zs:List Int):List Int:=(List.range 32).map fun k=>((IZ zs k:Nat):Int)
theorem aar(zs:List Int){k:Nat}(hk:k<32):(U4 zs)[k]? =some ((IZ zs k:Nat):Int):=by
 unfold U4
 rw[BG,FD hk];rfl
theorem ajt(zs:List Int)(z:Int)(j:Nat):IZ (zs++ [z]) j=IZ zs j+if Cl.WQ z=(j:Int)then 1 else 0:=by
 unfold IZ
 rw[List.countP_append,List.countP_singleton]
 simp only[decide_eq_true_eq]
theorem anJ(zs:List Int)(z:Int){k:Nat}(hk:k<32)(h:Cl.WQ z=(k:Int)):(U4 zs).set k (((IZ zs k:Nat):Int)+1)=U4 (zs++ [z]):=by
 apply Eu
 intro i
 have hl:∀zs:List Int,(U4 zs).length=32:=fun zs=>by simp[U4]
 by_cases hi:i<32
 ·rw[Ei,aar _ hi,aar _ hi,ajt,hl]
  by_cases ei:k=i
  ·subst ei
   rw[if_pos rfl,if_pos hk,if_pos h]
   congr 1
  ·rw[if_neg ei,if_neg Y];rfl
 ·rw[DC (by rw[He,hl];omega),DC (by rw[hl];omega)]
theorem aaY(zs:List Int)(k:Nat):IZ zs k≤zs.length:=List.countP_le_length
theorem Heap.arF{w0 W:World}{F:List Nat}{p:Nat}{cs cs':List Value}{T:TypeId}{L:List Fp}(H:Heap w0 F (blk p cs T::L) W)(e:cs=cs'):Heap w0 F (blk p cs' T::L) W:=by rw[←e];exact H
theorem ae2{f:Nat→Nat}:∀{a b:Nat},a≤b→sumTo f a≤sumTo f b
 |a,0,h=>by rw[show a=0 by omega];exact Bg _
 |a,b+1,h=>by
  by_cases e:a=b+1
  ·rw[e];exact Bg _
  ·have:=ae2 (f:=f) (show a≤b by omega)
   rw[sumTo];omega
theorem amM(gr:NP)(w:World)(hg:LP w [] gr)(hr:Fh gr=true)(hm:gr.m≤1000)(hsz:∀x∈gr.ns,x.n≤63∧1+x.n+x.m≤256):
 Calls prog 60 [.agg gr.cells.toArray].toArray w fun e w'=>e= .returned (.int .i64 ((1+need (IZ (NT gr.ns)) (fun _=>0):Nat):Int))∧Only [] w w':=by
 have H:=Heap.nil w
 have hRi:=fun{W:World} (h:Only [] w W)=>Yz gr W (hg.later h J)
 rw[hr]at hRi
 have hnl:=hg.nl
 have hmb:=hg.mb
 have hns:=hg.ns
 unfold NP.cells at*
 refine BM 62 func60 O (Aw (DU H O O fun p1 _ H=>qw ?_))
 refine Aw (Dn H 0 O O O MO Jg (BI H O (hRi H.only) (ajF O) fun W1 H=>gK ?_))
 refine Aw (nG ?_)
 refine Ea H O arM fun p4 _ H=>Au (AP (Aw (BR O Gg (BD H 1 O O O Lm (Di O underlying23 (tV ?_))))))
 have hz:U4 (NT (gr.ns.take 0))=List.replicate 32 0:=by
  show U4 []=_
  decide
 replace H:=Heap.arF H (cs':=(U4 (NT (gr.ns.take 0))).map (Value.int .i64)) (by rw[hz];rfl)
 refine Ec (fun z f W=>∃(i:Nat),i≤gr.m∧z=gr.m-i∧f 3= .int .i64 1∧f 4=ptr p4∧f 16= .slice gr.B gr.m gr.d∧f 17= .int .i64 gr.m∧f 18= .int .i64 i∧Heap w [] [blk p4 ((U4 (NT (gr.ns.take i))).map (Value.int .i64)) 203,blk p1 [.slice gr.A gr.n gr.c,.slice gr.B gr.m gr.d] 25] W) gr.m ⟨0,Y,rfl,rfl,rfl,rfl,rfl,rfl,H⟩ ?_
 clear H
 rintro z f W ⟨i,hi,rfl,f3,f4,f16,f17,f18,H⟩
 by_cases hlt:i<gr.m
 ·obtain⟨x,hx⟩:∃x,gr.ns[i]? =some x:=⟨_,Ar Y⟩
  have hxm:=A8 hx
  obtain⟨b,o,hB,hbI,hrd⟩:=hns.1 Y
  have hrx:=hrd i x hx
  have hxo:=hns.2 x hxm
  have hxs:=hsz x hxm
  unfold FM.cells at hrx
  have hSm:=fun(W:World)=>aev (x.n:Int) (x.m:Int) W Y Y
  have hsize:Cl.size (x.n:Int) (x.m:Int)=1+(x.n:Int)+(x.m:Int):=(Cl.LY _ _ Y Y Y Y).1
  have axy:Cl.ofB (1+(x.n:Int)+(x.m:Int))=true:=decide_eq_true Y
  obtain⟨k1,hk1⟩:=Bo (Cl.QO (1+(x.n:Int)+(x.m:Int))).1
  have J6:k1<32:=by have:=(Cl.QO (1+(x.n:Int)+(x.m:Int))).2;omega
  rw[hsize,axy,hk1]at hSm
  have hv:((U4 (NT (gr.ns.take i))).map (Value.int .i64))[k1]? =some (.int .i64 ((IZ (NT (gr.ns.take i)) k1:Nat):Int)):=by rw[BG,aar _ J6];rfl
  have hcl:=aaY (NT (gr.ns.take i)) k1
  have hzl:(NT (gr.ns.take i)).length≤1000:=by unfold NT;rw[Ci,Dy];omega
  have hst:((U4 (NT (gr.ns.take i))).map (Value.int .i64)).set k1 (.int .i64 (((IZ (NT (gr.ns.take i)) k1:Nat):Int)+1))=(U4 (NT (gr.ns.take (i+1)))).map (Value.int .i64):=by
   rw[←Gy,anJ _ (1+(x.n:Int)+(x.m:Int)) J6 hk1]
   congr 2
   unfold NT
   rw[←Jc hx,BU];rfl
  generalize IZ (NT (gr.ns.take i)) k1=c at*
  have awU:=hxo.nb
  have ayn:=hxo.mb
  rw[hB]at f16 H
  obtain⟨f,rfl⟩:=Lr f3 f4 f16 f17 f18
  clear f3 f4 f16 f17 f18
  refine ak ?_
  refine gQ ?_
  refine ji ?_
  refine Ea H O LV fun p6 _ H=>qH ?_
  clear H;refine ayJ fun _ H=>?_
  refine Au (Aw (BR O Iz (iQ ?_)))
  refine BR O Nc (BD H 0 O O O JE (Di O underlying55 (AL (FP (acQ _ _) O) (Ea H O FK fun p7 _ H=>gX ?_))))
  clear H;refine ayJ fun _ H=>?_
  refine Au (Aw (tZ ?_))
  refine BI H O (hSm _) (Ym O) fun W1 H=>aX ?_
  refine Au (Aw (BL O (Au (EI O (DR (Az O (AL (OY (i:=k1) O O Y Y underlying203 Kz) (BD H 2 O O hv GU (dI ?_)))))))))
  refine AL (OY (i:=k1) O O Y Y underlying203 Kz) (Ic (u:= .int _ _) H 2 O O O O hv O Kz ?_)
  clear H;refine ayJ fun _ H=>?_
  refine vG ?_
  rw[hst]at H
  exact⟨_,_,Y,rfl,i+1,Y,rfl,rfl,rfl,by rw[hB];rfl,rfl,rfl,by rw[hB];exact H.drop.drop⟩
 ·obtain rfl:i=gr.m:=Y
  have htk:gr.ns.take gr.m=gr.ns:=by rw[←hnl];exact DL
  rw[htk]at H
  obtain⟨zs,hzs⟩:∃zs,NT gr.ns=zs:=⟨_,rfl⟩
  have hzl:zs.length≤1000:=by rw[←hzs];unfold NT;rw[Ci];omega
  rw[hzs]at H⊢
  obtain⟨f,rfl⟩:=Lr f3 f4 f16 f17 f18
  clear f3 f4 f16 f17 f18
  have apT:((U4 zs).map (Value.int .i64)).length=32:=by simp[U4]
  refine je ?_
  refine AP (Aw ?_)
  refine Hf O O (JU H 0 (vs:=(U4 zs).map (Value.int .i64)) O O (Ez (by rw[OB,apT];omega)) apT auD atq) ?_
  refine tV ?_
  refine Ec (fun z f W=>∃(k:Nat),k≤32∧z=32-k∧f 3= .int .i64 ((1+sumTo (fun j=>YX (IZ zs j) (YA j)) k:Nat):Int)∧f 45= .agg ((U4 zs).map (Value.int .i64)).toArray∧f 46= .int .i64 k∧Heap w [] [] W) 32 ⟨0,Y,rfl,rfl,rfl,rfl,H.clear⟩ ?_
  clear H
  rintro z f W ⟨k,hk,rfl,f3,f45,f46,H⟩
  by_cases hlk:k<32
  ·have hx:((U4 zs).map (Value.int .i64))[k]? =some (.int .i64 ((IZ zs k:Nat):Int)):=by rw[BG,aar _ hlk];rfl
   have hcc:=aaY zs k
   have hs1:sumTo (fun j=>YX (IZ zs j) (YA j)) k≤32*1001:=by
    have e:sumTo (fun _=>1001) 32=32*1001:=by decide
    rw[←e]
    refine F9 ?_ (F9 (sumTo_le (f:=fun j=>YX (IZ zs j) (YA j)) (g:=fun _=>1001) k fun j _=>?_) (ae2 (f:=fun _=>1001) Y))
    ·exact Bg _
    ·have:=aaY zs j
     unfold YX
     split
     ·omega
     ·have:=N9 (IZ zs j-1) (YA j);omega
   have hsu:sumTo (fun j=>YX (IZ zs j) (YA j)) (k+1)=sumTo (fun j=>YX (IZ zs j) (YA j)) k+YX (IZ zs k) (YA k):=rfl
   generalize sumTo (fun j=>YX (IZ zs j) (YA j)) k=s at*
   by_cases h0:IZ zs k=0
   ·have hc0:YX (IZ zs k) (YA k)=0:=by unfold YX;rw[if_pos h0]
    rw[h0]at hx
    obtain⟨f,rfl⟩:=OE f3 f45 f46
    clear f3 f45 f46
    refine lW ?_
    refine AL (ad5 (i:=k) (v:= .int .i64 ((0:Nat):Int)) O O O hlk hx underlying203 Kz GU) (AQ O (oG ?_))
    refine AL (ER O O Y) (Au (nM ?_))
    exact⟨_,_,Y,rfl,k+1,Y,rfl,by rw[hsu,hc0];rfl,rfl,rfl,H⟩
   ·have hce:=aip hlk
    have axa:Cl.cells (k:Int)=(YA k:Int):=by unfold YA at hce⊢;omega
    have hC:=fun(W:World)=>al5 k W Y
    rw[axa]at hC
    have hc1:YX (IZ zs k) (YA k)=(IZ zs k-1)/YA k+1:=by unfold YX;rw[if_neg h0]
    have hq1:=N9 (IZ zs k-1) (YA k)
    generalize YA k=ce at*
    generalize IZ zs k=c at*
    have hq:IntKind.i64.wrap (((c:Int)-1)/(ce:Int))=(((c-1)/ce:Nat):Int):=by
     have e:((c:Int)-1)/(ce:Int)=(((c-1)/ce:Nat):Int):=by rw[Lj];congr 1;omega
     rw[e];exact wI Y
    generalize(c-1)/ce=q at*
    obtain⟨f,rfl⟩:=OE f3 f45 f46
    clear f3 f45 f46
    refine lW ?_
    refine AL (ad5 (i:=k) (v:= .int .i64 (c:Int)) O O O hlk hx underlying203 Kz GU) (AQ O (oG ?_))
    refine AL (Jl O O Y) (Au (EI O (DR (Az O (Az O (nK ?_))))))
    refine Az O (BI H O (hC _) (aqt O) fun W1 H=>AL (Rf O O Y hq) (dI ?_))
    refine dI ?_
    refine AQ O (vG ?_)
    refine⟨_,_,?_,rfl,k+1,Y,rfl,?_,rfl,rfl,H⟩
    ·omega
    ·rw[hsu,hc1]
     show Value.int _ _=Value.int _ _
     congr 1
     omega
  ·obtain rfl:k=32:=Y
   obtain⟨f,rfl⟩:=OE f3 f45 f46
   clear f3 f45 f46
   refine uS ?_
   refine Az O (fH ?_)
   exact⟨rfl,H.only⟩
end
end
section
section
open Go.RowKit
theorem abe.suff{d:Nv.D}{m n N:Nat}{id:Int}{h:Ko}(hF:abe d m n id h N){zs:List Int}(hz:1+need (IZ zs) (fun _=>0)≤n):need (IZ zs) (lk h.s.F)≤frs h.s.hs:=by
 have hlk:∀k,k<32→lk h.s.F k=0:=fun k hk=>by
  have:cls (xsOf h.s.F) k=[]:=Pv.2 fun a ha=>by
   obtain⟨⟨b,i,b1,b2,b3,_⟩,_⟩:=(hF.ok.al.fm k hk a).1 ha
   rw[hF.hs,D7]at b3
   split at b3
   ·injection b3 with b3;injection b3 with b3 _;cases b3
   ·cases b3
  unfold lk;rw[this];rfl
 have e1:need (IZ zs) (lk h.s.F)=need (IZ zs) (fun _=>0):=sumTo_congr 32 fun k hk=>by show YX _ _=YX _ _;rw[hlk k hk]
 have e2:frs h.s.hs=n-1:=by
  rw[hF.hs];unfold frs
  rw[List.drop_replicate,List.countP_replicate];rfl
 rw[e1,e2];omega
section
variable{g:Geo}{d:Nv.D}{m n N:Nat}{id:Int}{h:Ko}{w:World}
structure Lit (d:Nv.D) (U:List Bool):Prop where
 c:∀o,Oo (Gz U) o→o.length≤40
 z:∀a,Gz U a=true→Rl d.cache a≤121
theorem Lit.fits(hL:Lit d h.s.U)(hW:Ob.SQ d.cache){fr o:List Int}{G:List Nat}{W:World}{gr:NP}(hk:LP W G gr)(hr:Rd d.cache (Gz h.s.U) fr o gr.rs gr.nodes)(hm:gr.m=o.length):gr.m≤40∧(∀x∈gr.ns,x.n≤63∧1+x.n+x.m≤121)∧∀l,need (IZ (NT gr.ns)) l≤34:=by
 have h1:gr.m≤40:=by rw[hm];exact hL.c o ⟨hr.ord.nodup,fun x hx=>⟨hr.ord.pos x hx,hr.used x hx⟩⟩
 have h2:∀x∈gr.ns,x.n≤63∧1+x.n+x.m≤121:=fun x hx=>by
  obtain⟨_,hs,hk2⟩:=hr.right hW hk
  obtain⟨a,ha,e1,e2⟩:=hk2 x hx
  have:=hL.z a (hr.used a ha)
  unfold Rl at this
  exact⟨(hs x hx).1,Y⟩
 refine⟨h1,h2,fun l=>agj (by unfold NT;rw[Ci,hk.nl];exact h1) (fun z hz=>?_) l⟩
 unfold NT at hz
 obtain⟨x,hx,rfl⟩:=BX.1 hz
 have:=(h2 x hx).2
 omega
theorem asw(hE:DW (h.L g d) w)(hO:Ia d m n id h N)(afz:n≤190)(hLt:Lit d h.s.U)(id2 stack:Int)(awX:Zj id2)(hst:0≤stack):
 Calls prog 14 [ptr h.pH,.int .u64 id2,.int .i64 stack,.int .i64 0].toArray w fun e w'=>∃(g2:Geo) (d2:Nv.D) (h2:Ko) (N2 n2:Nat) (ws o rs:List Int) (ns:Gr.Nodes),n2≤190∧Rd d.cache (Gz h.s.U) h.V o rs ns∧Built d2 (64*n2) n2 id2 h2 N2 ws rs ns∧ns.length≤40∧e= .returned (.tuple #[ptr h2.pH,.int .i64 0])∧Heap w [] (h2.L g2 d2) w':=by
 have HR:=Heap.start hE
 have H:=Heap.nil w
 have hFr:=fun{W:World} hE=>aht (g:=g) (d:=d) (h:=h) (w:=W) hE hO afz
 refine BM 52 func14 O (Aw (EX O (nV ?_)))
 refine s_call O (hFr (HR.same H.only).ents) (aq0 O) ?_
 rintro e W1 ⟨⟨gr,o,rfl,hok,hrd,hgn,hgm⟩,H'⟩
 refine⟨_,rfl,?_⟩
 have H:=H.same H';clear H';have HP:=H;clear H;have H:=Heap.nil W1
 refine Ea H O O6 fun p10 _ H=>qG ?_
 clear H;refine ayJ fun _ H=>?_
 refine Au (AP ?_)
 have hg0:=hok [] J
 obtain⟨hr,hs1,hs2⟩:=hrd.right hO.dev.dv.U hg0
 obtain⟨asZ,hs3,aww⟩:=hLt.fits hO.dev.dv.U hg0 hrd hgm
 have hBk:=fun{W:World} (hg:LP W [] gr)=>amM gr W hg hr Y fun x hx=>by have:=hs3 x hx;omega
 have hnb:=aww (fun _=>0)
 have hnd:∀{d m n id h N},abe d m n id h N→1+need (IZ (NT gr.ns)) (fun _=>0)≤n→need (IZ (NT gr.ns)) (lk h.s.F)≤frs h.s.hs:=fun hF hz=>hF.suff hz
 obtain⟨bn,hbn⟩:∃bn:Nat,1+need (IZ (NT gr.ns)) (fun _=>0)=bn:=⟨_,rfl⟩
 rw[hbn]at hBk hnd
 obtain⟨n2,hn2,axj⟩:∃n2:Nat,(n2:Int)=(if(2:Int)<(bn:Int)then(bn:Int)else 2)∧2≤n2∧bn≤n2∧n2≤35:=by
  by_cases h2:2<bn
  ·exact⟨bn,by rw[if_pos Y],Y⟩
  ·exact⟨2,by rw[if_neg Y];rfl,Y⟩
 have hNw:=fun(W:World)=>anx n2 id2 stack Y awX hst W
 refine DR (Dn H 0 O O O MO Jg (BI H O (hBk (hg0.later H.only J)) (awZ O) fun W1 H=>AL (ZB (c:=(n2:Int)) O O (by rw[hn2])) (bM ?_)))
 refine AX 22 O (Fz O) (AX 22 O (ER O O Y) (Dp O O (BL O (AX 26 O (Fz O) (AX 26 O (Fz O) (AX 26 O (Dk O O (wI Y)) (AX 26 O (ER O O Y) (fE ?_))))))))
 refine Aw (Az O (nI ?_))
 refine Az O (Az O (rH ?_))
 rintro e W1 ⟨g2,d2,h2,N2,hg2,hF2,rfl,H'⟩
 refine⟨_,rfl,?_⟩
 have hgr:=(hg0.later H.only J).fresh H';have H:=(H.more H').perm Gj;clear H';simp only[Bv]at H
 refine dU ?_
 refine nR ?_
 refine AP (AP ?_)
 have hN2:=hF2.nn
 have hTo:=fun{W:World} hE hgr=>ars (g:=g2) (d:=d2) (h:=h2) (w:=W) hE hF2 hg2 gr hgr hr Y Y (fun x hx=>by have:=hs3 x hx;omega) Y (hnd hF2 axj.2.1)
 refine DR (BF O (Dn H 0 O O O MO Jg (s_call O (hTo H.drop.ents hgr) (ca8 O) ?_)))
 rintro e W1 ⟨d3,s,rg,sL,hL,V,ws,hBt,rfl,H'⟩
 refine⟨_,rfl,?_⟩
 have H:=H.under H';clear H'
 refine mW ?_
 refine AO (Aw (BF O (qZ ?_)))
 exact⟨g2,d3,h2.cm s rg sL hL V,_,n2,ws,o,_,_,Y,hrd,hBt,by rw[NP.L6,hg0.nl];exact asZ,rfl,by simpa using HP.more H.drop⟩
end
end
end
end Go.Proofs.YtppilhpcmkekbaaGreat
