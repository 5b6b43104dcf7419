/- Parts of the proof. -/
import Derived.Test.YtppilhpcmkekbaaGreatKTopBothc
import Derived.Test.YtppilhpcmkekbaaGreatKTopBothi
set_option linter.unusedSimpArgs false
set_option linter.unusedVariables false
set_option linter.unusedSectionVars false
set_option maxRecDepth 100000
set_option maxHeartbeats 16000000
namespace Go.Proofs.YtppilhpcmkekbaaGreat
open Go.Proofs.Tryz
section
namespace Ob
def Qv(c:List Int):Prop:=∀x∈c,0≤x∧x≤18446744073709551615
theorem Yx{c:List Int}(h:Qv c)(a:Int):0≤Nv.get c a∧Nv.get c a≤18446744073709551615:=by
 unfold Nv.get
 split
 ·rename_i h1
  rw[BN,Ba Y]
  exact h _ (KH _)
 ·omega
def hd(c:List Int)(a:Int):Bool:=
 decide (0≤a∧a<(c.length:Int))&&(decide (Oh.MJ (Nv.get c a) a=0)&&decide (Cl.size (Oh.decP (Nv.get c a) a) (Oh.Tn (Nv.get c a) a)≤(c.length:Int)-a))
def hp(c:List Int)(a:Int):Int:=if hd c a=true then Oh.decP (Nv.get c a) a else 0
def hq(c:List Int)(a:Int):Int:=if hd c a=true then Oh.Tn (Nv.get c a) a else 0
def he(c:List Int)(a:Int):Int:=if hd c a=true then 0 else 22
def UL(c:List Int)(i:Int):Int:=min (Nv.get c i) 1099511627776
def LM(c:List Int)(a:Int)(k:Nat):List Int:=(List.range k).map fun(i:Nat)=>UL c (a+(1+(i:Int)))
def ptrs(c:List Int)(a:Int):List Int:=LM c a (hp c a).toNat
theorem agk(c:List Int)(a:Int)(k:Nat):LM c a (k+1)=LM c a k++ [UL c (a+(1+(k:Int)))]:=by
 unfold LM;rw[Lr,EY];rfl
theorem Ub(c:List Int)(a:Int)(k:Nat):(LM c a k).length=k:=by simp[LM]
theorem agD{c:List Int}(h:Qv c)(i:Int):0≤UL c i∧UL c i≤1099511627776:=by have:=Yx h i;unfold UL;omega
theorem ahV{c:List Int}(h:Qv c)(a:Int):∀x∈ptrs c a,0≤x∧x≤1099511627776:=fun x hx=>by
 unfold ptrs LM at hx
 obtain⟨i,_,rfl⟩:=DN.1 hx
 exact agD h _
theorem aa1{c:List Int}{a:Int}(h:hd c a=true):(0≤a∧a<(c.length:Int))∧Oh.MJ (Nv.get c a) a=0∧Cl.size (Oh.decP (Nv.get c a) a) (Oh.Tn (Nv.get c a) a)≤(c.length:Int)-a:=by
 unfold hd at h
 simp only[FQ,decide_eq_true_eq]at h
 exact h
theorem ash{c:List Int}{a:Int}(h:¬(0≤a∧a<(c.length:Int))):hd c a=false:=by unfold hd;rw[decide_eq_false h,Jc]
theorem arC{c:List Int}{a:Int}(h:Oh.MJ (Nv.get c a) a≠0):hd c a=false:=by unfold hd;rw[decide_eq_false h,Jc,MS]
theorem arl{c:List Int}{a:Int}(h:¬Cl.size (Oh.decP (Nv.get c a) a) (Oh.Tn (Nv.get c a) a)≤(c.length:Int)-a):hd c a=false:=by unfold hd;rw[decide_eq_false h,MS,MS]
theorem apY{c:List Int}{a:Int}(h1:0≤a∧a<(c.length:Int))(h2:Oh.MJ (Nv.get c a) a=0)(h3:Cl.size (Oh.decP (Nv.get c a) a) (Oh.Tn (Nv.get c a) a)≤(c.length:Int)-a):hd c a=true:=by
 unfold hd;rw[decide_eq_true h1,decide_eq_true h2,decide_eq_true h3];rfl
theorem ahi(x a:Int)(h0:0≤x):0≤Oh.decP x a∧Oh.decP x a≤63∧0≤Oh.Tn x a∧Oh.Tn x a≤16384:=by
 have hr:=Oh.aeC x
 cases ho:Sl.Lh x a with
 |false=>have:=Oh.TY x a ho;omega
 |true=>
  by_cases h2:Oh.enc (Oh.SV x) (Oh.SN x) a=x
  ·obtain⟨_,e1,e2⟩:=Oh.Qw x a ho h2
   have:Cl.size (Oh.SV x) (Oh.SN x)≠0:=fun h=>Oh.agw x a h h0 h2
   unfold Cl.size at this
   split at this
   ·exact absurd rfl this
   ·omega
  ·have:=Oh.VD x a ho h2;omega
theorem QS{c:List Int}(h:Qv c)(a:Int):0≤hp c a∧hp c a≤63∧0≤hq c a∧hq c a≤16384:=by
 have:=ahi (Nv.get c a) a (Yx h a).1
 unfold hp hq
 split<;>omega
abbrev H3:=Int×Int×Int
def hcell(h:H3):List Value:=[.int .i64 h.1,.int .i64 h.2.1,.int .i64 h.2.2]
def NP(hs:List H3)(b n:Nat):Bool:=(List.range n).all fun(i:Nat)=>decide (i=0)||decide (hs[b+i]? =some (3,0,(i:Int)))
def whole(hs:List H3)(b:Nat):Bool:=
 match hs[b]? with
 |none=>false
 |some h=>decide (h.1=2)&&(decide (1≤h.2.2∧h.2.2≤(hs.length:Int)-(b:Int))&&NP hs b h.2.2.toNat)
def YC(hs:List H3)(b:Nat):Int:=if whole hs b=true then(match hs[b]? with|none=>0|some h=>h.2.2)else 0
theorem aew(hs:List H3)(b n:Nat):NP hs b (n+1)=(NP hs b n&&(decide (n=0)||decide (hs[b+n]? =some (3,0,(n:Int))))):=by
 unfold NP;rw[Lr,List.all_append];simp
theorem ady{hs:List H3}{b n m:Nat}(h:NP hs b m=true)(hn:n≤m):NP hs b n=true:=by
 unfold NP at h⊢
 rw[Tt]at h⊢
 intro i hi
 exact h i (Fg.2 (FV (Fg.1 hi) hn))
def agS(n:Nat)(c:List Int)(hs:List H3)(a:Int)(h:H3):Bool:=
 if Cl.ofB (Cl.size (hp c a) (hq c a))=true then(Ce.address n (Cl.Yo (Cl.size (hp c a) (hq c a))) (a/512) (a%512/Cl.words (Cl.Yo (Cl.size (hp c a) (hq c a))))==a)&&decide (h=(1,Cl.Yo (Cl.size (hp c a) (hq c a)),0))
 else whole hs (a/512).toNat&&(decide (a=Ce.first n (a/512))&&decide (h.2.2=Oh.blocks (hp c a) (hq c a)))
def pl(n:Nat)(c:List Int)(hs:List H3)(a:Int):Bool:=
 decide (512≤a∧a<512*(n:Int))&&(hd c a&&(match hs[(a/512).toNat]? with|none=>false|some h=>agS n c hs a h))
theorem OW{n:Nat}{c:List Int}{hs:List H3}{a:Int}(h:pl n c hs a=true):512≤a∧a<512*(n:Int)∧hd c a=true:=by
 unfold pl at h
 simp only[FQ,decide_eq_true_eq]at h
 exact⟨h.1.1,h.1.2,h.2.1⟩
end Ob
end
section
section
open Go.RowKit
theorem avh(a x:Int)(w:World)(ha: -9223372036854775808≤a∧a≤9223372036854775807)(hx:0≤x∧x≤18446744073709551615):
 Calls prog 205 [.int .i64 a,.int .u64 x].toArray w fun e w'=>e= .returned (.tuple [.agg [.int .i64 (Oh.decP x a),.int .i64 (Oh.Tn x a)].toArray,.int .i64 (Oh.MJ x a)].toArray)∧Only [] w w':=
 (akx a x w ha.1 ha.2 hx.1 hx.2).mono fun e w' h=>⟨h.1,Only.of_below h.2 _⟩
theorem aej(p d:Int)(w:World)(hp:0≤p∧p≤1000000)(hd:0≤d∧d≤1000000):
 Calls prog 155 [.agg [.int .i64 p,.int .i64 d].toArray].toArray w fun e w'=>e= .returned (.int .i64 (Cl.size p d))∧Only [] w w':=
 (Qx p d w Y Y Y Y).mono fun e w' h=>⟨h.1,Only.of_below h.2 _⟩
theorem aeN(p d:Int)(w:World)(hp:0≤p∧p≤1000000)(hd:0≤d∧d≤1000000):
 Calls prog 129 [.agg [.int .i64 p,.int .i64 d].toArray].toArray w fun e w'=>e= .returned (.tuple [.int .i64 (Cl.Yo (Cl.size p d)),.bool (Cl.ofB (Cl.size p d))].toArray)∧Only [] w w':=
 (Xf p d w Y Y Y Y).mono fun e w' h=>⟨h.1,Only.of_below h.2 _⟩
theorem akC(p d:Int)(w:World)(hp:0≤p∧p≤1000000)(hd:0≤d∧d≤1000000):
 Calls prog 130 [.agg [.int .i64 p,.int .i64 d].toArray].toArray w fun e w'=>e= .returned (.int .i64 (Oh.blocks p d))∧Only [] w w':=
 (agB p d w Y Y Y Y).mono fun e w' h=>⟨h.1,Only.of_below h.2 _⟩
theorem aps(p d i:Int)(w:World)(hp:0≤p∧p≤63)(hd:0≤d∧d≤16384)(hi:0≤i∧i≤100000):
 Calls prog 251 [.agg [.int .i64 p,.int .i64 d].toArray,.int .i64 i].toArray w fun e w'=>e= .returned (.tuple [.int .i64 (1+i),.bool (Oh.inB i p)].toArray)∧Only [] w w':=
 (ak7 p d i w hp.1 hp.2 hd.1 hd.2 Y Y).mono fun e w' h=>⟨h.1,Only.of_below h.2 _⟩
theorem arL(p d i:Int)(w:World)(hp:0≤p∧p≤63)(hd:0≤d∧d≤16384)(hi:0≤i∧i≤100000):
 Calls prog 252 [.agg [.int .i64 p,.int .i64 d].toArray,.int .i64 i].toArray w fun e w'=>e= .returned (.tuple [.int .i64 (1+p+i),.bool (Oh.inB i d)].toArray)∧Only [] w w':=
 (ai8 p d i w hp.1 hp.2 hd.1 hd.2 Y Y).mono fun e w' h=>⟨h.1,Only.of_below h.2 _⟩
theorem acJ(n a:Int)(w:World)(hn:0≤n∧n≤1000000)(ha: -9223372036854775808≤a∧a≤9223372036854775807):
 Calls prog 175 [.agg [.int .i64 n].toArray,.int .i64 a].toArray w fun e w'=>e= .returned (.int .i64 (JF n a))∧Only [] w w':=
 (TW n a w hn.1 hn.2 ha.1 ha.2).mono fun e w' h=>⟨h.1,Only.of_below h.2 _⟩
theorem ais(n b:Int)(w:World)(hn:n≤1000000)(hb: -9223372036854775808≤b):
 Calls prog 204 [.agg [.int .i64 n].toArray,.int .i64 b].toArray w fun e w'=>e= .returned (.int .i64 (Ce.first n b))∧Only [] w w':=
 (aa5 n b w hb hn).mono fun e w' h=>⟨h.1,Only.of_below h.2 _⟩
theorem avV(n k a:Int)(w:World)(hn:0≤n∧n≤1000000)(ha:512≤a∧a<512*n)(hk:0≤k∧k<32):
 Calls prog 203 [.agg [.int .i64 n].toArray,.int .i64 k,.int .i64 a].toArray w fun e w'=>e= .returned (.tuple [.agg [.int .i64 (a/512),.int .i64 (a%512/Cl.words k)].toArray,.bool (Ce.address n k (a/512) (a%512/Cl.words k)==a)].toArray)∧Only [] w w':=
 (aqM n k a w hn.1 hn.2 ha.1 ha.2 hk.1 hk.2).mono fun e w' h=>⟨h.1,Only.of_below h.2 _⟩
section
variable{g:Geo}{d:Nv.D}{w:World}
theorem aaR(hE:Dj (Dy g d) w)(hw:Ob.Qv d.cache)(hl:d.cache.length≤1000000000)(a:Int)(ha: -9223372036854775808≤a∧a≤9223372036854775807):
 Calls prog 138 [ptr g.p,.int .i64 a].toArray w fun e w'=>e= .returned (.tuple [.agg [.int .i64 (Ob.hp d.cache a),.int .i64 (Ob.hq d.cache a)].toArray,.int .i64 (Ob.he d.cache a)].toArray)∧Only [] w w':=by
 have HR:=Heap.start hE
 have H:=Heap.nil w
 have hLn:=fun{W:World} (h:Only [] w W)=>Zw g d W (HR.same h).ents
 by_cases hin:0≤a∧a<(d.cache.length:Int)
 ·have hG:=fun{W:World} (h:Only [] w W)=>aaM g d a W (HR.same h).ents
  have hx:=Ob.Yx hw a
  have hD:=fun(W:World)=>avh a (Nv.get d.cache a) W ha hx
  have hb:=Ob.ahi (Nv.get d.cache a) a hx.1
  by_cases he:Oh.MJ (Nv.get d.cache a) a=0
  ·have hS:=fun(W:World)=>aej (Oh.decP (Nv.get d.cache a) a) (Oh.Tn (Nv.get d.cache a) a) W Y Y
   have hsb:=Cl.ZT (Oh.decP (Nv.get d.cache a) a) (Oh.Tn (Nv.get d.cache a) a)
   rw[he]at hD
   by_cases hs:Cl.size (Oh.decP (Nv.get d.cache a) a) (Oh.Tn (Nv.get d.cache a) a)≤(d.cache.length:Int)-a
   ·have hh:=Ob.apY hin he hs
    unfold Ob.hp Ob.hq Ob.he
    rw[if_pos hh,if_pos hh,if_pos hh]
    refine BO 38 func138 O (AP (Ei H O G8 fun p4 _ H=>jX ?_))
    rintro e W1 ⟨rfl,H'⟩
    refine⟨_,rfl,?_⟩
    have H:=H.same H';clear H'
    refine wW ?_
    refine BL H O (hG H.only) (SG O) fun W1 H=>BL H O (hD _) (alM O) fun W1 H=>gX ?_
    refine Ei H O G8 fun p6 _ H=>iH ?_
    clear H;refine axS fun _ H=>?_
    refine vJ ?_
    rintro e W1 ⟨rfl,H'⟩
    refine⟨_,rfl,?_⟩
    have H:=H.same H';clear H'
    refine Bo 27 O (Ls O) (s_call (ET 27 Aw O) (hLn H.only) (Qq O) ?_)
    rintro e W1 ⟨rfl,H'⟩
    refine⟨_,rfl,?_⟩
    have H:=H.same H';clear H'
    refine Bo 27 O (Gm O) (Bo 27 O (Gu O O (wI Y)) (Bo 27 O (Jy O O Y) (gQ ?_)))
    refine AP (tJ ?_)
    refine En H 1 O O O O O O O DV ?_
    clear H;refine axS fun _ H=>?_
    refine xA ?_
    refine ND O (JB H 1 O O O Fa DV) (Jt (v:= .int _ _) O) ?_
    exact⟨rfl,H.only⟩
   ·have hh:=Ob.arl hs
    refine tY ?_
    refine BO 38 func138 O (AP (Ei H O G8 fun p4 _ H=>jX ?_))
    rintro e W1 ⟨rfl,H'⟩
    refine⟨_,rfl,?_⟩
    have H:=H.same H';clear H'
    refine wW ?_
    refine BL H O (hG H.only) (SG O) fun W1 H=>BL H O (hD _) (alM O) fun W1 H=>gX ?_
    refine Ei H O G8 fun p6 _ H=>iH ?_
    clear H;refine axS fun _ H=>?_
    refine vJ ?_
    rintro e W1 ⟨rfl,H'⟩
    refine⟨_,rfl,?_⟩
    have H:=H.same H';clear H'
    refine Bo 27 O (Ls O) (s_call (ET 27 Aw O) (hLn H.only) (Qq O) ?_)
    rintro e W1 ⟨rfl,H'⟩
    refine⟨_,rfl,?_⟩
    have H:=H.same H';clear H'
    refine Bo 27 O (Gm O) (Bo 27 O (Gu O O (wI Y)) (Bo 27 O (Oz O O Y) (DW O O (rV ?_))))
    refine En H 1 O O O O O O O DV ?_
    clear H;refine axS fun _ H=>?_
    refine xA ?_
    refine Dx (ND O (JB H 1 O O O Fa DV) (Jt (v:= .int _ _) O) ?_)
    exact⟨rfl,H.only⟩
  ·have hh:=Ob.arC he
   refine tY ?_
   refine BO 38 func138 O (AP (Ei H O G8 fun p4 _ H=>jX ?_))
   rintro e W1 ⟨rfl,H'⟩
   refine⟨_,rfl,?_⟩
   have H:=H.same H';clear H'
   refine wW ?_
   refine BL H O (hG H.only) (SG O) fun W1 H=>BL H O (hD _) (alM O) fun W1 H=>gX ?_
   refine Ei H O G8 fun p6 _ H=>iH ?_
   clear H;refine axS fun _ H=>?_
   refine lV ?_
   refine AV (Jr O O Y) (BX O (qL ?_))
   refine qL ?_
   refine Df 27 O O (EZ O O (rV ?_))
   refine En H 1 O O O O O O O DV ?_
   clear H;refine axS fun _ H=>?_
   refine xA ?_
   refine Dx (ND O (JB H 1 O O O Fa DV) (Jt (v:= .int _ _) O) ?_)
   exact⟨rfl,H.only⟩
 ·have hh:=Ob.ash hin
  refine tY ?_
  by_cases h0:a<0
  ·refine BO 38 func138 O (AP (Ei H O G8 fun p4 _ H=>qG ?_))
   refine Df 10 O O (Df 10 O O (Df 10 O O (Df 10 O O (EZ O O (rV ?_)))))
   refine iH ?_
   clear H;refine axS fun _ H=>?_
   refine xA ?_
   refine Dx (ND O (JB H 0 O O O Fa DV) (Jt (v:= .int _ _) O) ?_)
   exact⟨rfl,H.only⟩
  ·refine BO 38 func138 O (AP (Ei H O G8 fun p4 _ H=>jX ?_))
   rintro e W1 ⟨rfl,H'⟩
   refine⟨_,rfl,?_⟩
   have H:=H.same H';clear H'
   refine Bo 10 O (GI O O Y) (DW O O (rV ?_))
   refine iH ?_
   clear H;refine axS fun _ H=>?_
   refine xA ?_
   refine Dx (ND O (JB H 0 O O O Fa DV) (Jt (v:= .int _ _) O) ?_)
   exact⟨rfl,H.only⟩
theorem aiU(hE:Dj (Dy g d) w)(hw:Ob.Qv d.cache)(hl:d.cache.length≤1000000000)(a i:Int)(hh:Ob.hd d.cache a=true)(hi:0≤i∧i<Ob.hp d.cache a):
 Calls prog 206 [ptr g.p,.int .i64 a,.int .i64 i,.bool false].toArray w fun e w'=>e= .returned (.tuple [.int .i64 (a+(1+i)),.int .i64 0].toArray)∧Only [] w w':=by
 have HR:=Heap.start hE
 have H:=Heap.nil w
 have hy:=Ob.aa1 hh
 have hb:=Ob.QS hw a
 have hH:=fun{W:World} (h:Only [] w W)=>aaR (HR.same h).ents hw hl a Y
 have hP:=fun(W:World)=>aps (Ob.hp d.cache a) (Ob.hq d.cache a) i W Y Y Y
 rw[Oh.aae i _ hi.1 hi.2]at hP
 have he:Ob.he d.cache a=0:=by unfold Ob.he;rw[if_pos hh]
 rw[he]at hH
 refine BO 41 func206 O (lW ?_)
 refine BL H O (hH H.only) (Vy O) fun W1 H=>gX ?_
 refine Ei H O G8 fun p10 _ H=>iH ?_
 clear H;refine axS fun _ H=>?_
 refine vV ?_
 refine AP (tJ ?_)
 refine AQ O (BL H O (hP _) (apJ O) fun W1 H=>nP ?_)
 refine dK ?_
 refine ru ?_
 refine AQ O (mZ ?_)
 refine nS ?_
 exact⟨rfl,H.only⟩
theorem afV(hE:Dj (Dy g d) w)(hw:Ob.Qv d.cache)(hl:d.cache.length≤1000000000)(a i:Int)(hh:Ob.hd d.cache a=true)(hi:0≤i∧i<Ob.hq d.cache a):
 Calls prog 206 [ptr g.p,.int .i64 a,.int .i64 i,.bool true].toArray w fun e w'=>e= .returned (.tuple [.int .i64 (a+(1+Ob.hp d.cache a+i)),.int .i64 0].toArray)∧Only [] w w':=by
 have HR:=Heap.start hE
 have H:=Heap.nil w
 have hy:=Ob.aa1 hh
 have hb:=Ob.QS hw a
 have hH:=fun{W:World} (h:Only [] w W)=>aaR (HR.same h).ents hw hl a Y
 have hP:=fun(W:World)=>aps (Ob.hp d.cache a) (Ob.hq d.cache a) i W Y Y Y
 have hD:=fun(W:World)=>arL (Ob.hp d.cache a) (Ob.hq d.cache a) i W Y Y Y
 rw[Oh.aae i _ hi.1 hi.2]at hD
 have he:Ob.he d.cache a=0:=by unfold Ob.he;rw[if_pos hh]
 rw[he]at hH
 refine BO 41 func206 O (lW ?_)
 refine BL H O (hH H.only) (Vy O) fun W1 H=>gX ?_
 refine Ei H O G8 fun p10 _ H=>iH ?_
 clear H;refine axS fun _ H=>?_
 refine vV ?_
 refine AP (tJ ?_)
 refine AQ O (BL H O (hP _) (apJ O) fun W1 H=>nP ?_)
 refine AO (EF O (DF (tJ ?_)))
 refine AQ O (BL H O (hD _) (avu O) fun W1 H=>nP ?_)
 refine eU ?_
 refine AP (AQ O (mZ ?_))
 refine nS ?_
 exact⟨rfl,H.only⟩
theorem agv(hE:Dj (Dy g d) w)(hw:Ob.Qv d.cache)(hl:d.cache.length≤1000000000)(a i:Int)(hh:Ob.hd d.cache a=true)(hi:0≤i∧i<Ob.hp d.cache a):
 Calls prog 139 [ptr g.p,.int .i64 a,.int .i64 i].toArray w fun e w'=>e= .returned (.tuple [.int .i64 (Ob.UL d.cache (a+(1+i))),.int .i64 0].toArray)∧Only [] w w':=by
 have HR:=Heap.start hE
 have H:=Heap.nil w
 have hy:=Ob.aa1 hh
 have hb:=Ob.QS hw a
 have hF:=fun{W:World} (h:Only [] w W)=>aiU (HR.same h).ents hw hl a i hh hi
 have hG:=fun{W:World} (h:Only [] w W)=>aaM g d (a+(1+i)) W (HR.same h).ents
 have hx:=Ob.Yx hw (a+(1+i))
 have hpb:=Ob.agD hw (a+(1+i))
 have hm:(if 1099511627776<Nv.get d.cache (a+(1+i))then 1099511627776 else Nv.get d.cache (a+(1+i)))=Ob.UL d.cache (a+(1+i)):=by unfold Ob.UL;rw[Int.min_def];split<;>split<;>omega
 refine BO 25 func139 O (lW ?_)
 refine AQ O (BL H O (hF H.only) (aiS O) fun W1 H=>pG ?_)
 refine eH ?_
 refine BL H O (hG H.only) (SG O) fun W1 H=>AV (al9 O O hm) (AV (adZ O Aw underlying3 (wI Y)) (nS ?_))
 exact⟨rfl,H.only⟩
theorem agJ(hE:Dj (Dy g d) w)(hw:Ob.Qv d.cache)(hl:d.cache.length≤1000000000)(a:Int)(hh:Ob.hd d.cache a=true):
 Calls prog 190 [ptr g.p,.int .i64 a].toArray w fun e w'=>∃A c,e= .returned (.tuple [.slice A (Ob.ptrs d.cache a).length c,.int .i64 0].toArray)∧Heap w [] [Ec 1 (.slice A (Ob.ptrs d.cache a).length c) (Ob.ptrs d.cache a).length ((Ob.ptrs d.cache a).map (Value.int .i64)) 3] w':=by
 have HR:=Heap.start hE
 have H:=Heap.nil w
 have hy:=Ob.aa1 hh
 have hb:=Ob.QS hw a
 have hH:=fun{W:World} (h:Only [] w W)=>aaR (HR.same h).ents hw hl a Y
 have he:Ob.he d.cache a=0:=by unfold Ob.he;rw[if_pos hh]
 rw[he]at hH
 obtain⟨n,hn⟩:∃n:Nat,Ob.hp d.cache a=n:=⟨(Ob.hp d.cache a).toNat,Y⟩
 have hP:=fun(i:Nat) (hi:i<n) {W:World} (h:Only [] w W)=>agv (HR.same h).ents hw hl a i hh ⟨Y,Y⟩
 have hpt:Ob.ptrs d.cache a=Ob.LM d.cache a n:=by unfold Ob.ptrs;rw[hn,BJ]
 rw[hpt,Ob.Ub]
 rw[hn]at hH
 refine BO 39 func190 O (AP (EM O (AY O (AO (eH ?_)))))
 refine BL H O (hH H.only) (Vy O) fun W1 H=>gX ?_
 refine Ei H O G8 fun p6 _ H=>iH ?_
 clear H;refine axS fun _ H=>?_
 refine vV ?_
 refine AP (EM O (AO (A8 (AP (BI O anS (fV ?_))))))
 refine xH ?_
 refine EO (fun z f W=>∃(i:Nat) (OA:Option Addr) (oc:Nat),i≤n∧z=n-i∧f 0=ptr g.p∧f 1= .int .i64 a∧f 8= .slice OA i oc∧f 22= .int .i64 n∧f 23= .int .i64 i∧Heap w [] [Ec 1 (.slice OA i oc) i ((Ob.LM d.cache a i).map (Value.int .i64)) 3] W) n ⟨0,none,0,Y,rfl,rfl,rfl,rfl,rfl,rfl,(Heap.clear H).Kr 1 3⟩ ?_
 clear H
 rintro z f W ⟨i,OA,oc,hi,rfl,f0,f1,f8,f22,f23,H⟩
 obtain⟨f,rfl⟩:=OJ f0 f1 f8 f22 f23
 clear f0 f1 f8 f22 f23
 by_cases hlt:i<n
 ·have hP:=fun{W:World} (h:Only [] w W)=>hP i hlt h
  refine nR ?_
  refine AO (eH ?_)
  refine AQ O (BL H O (hP H.only) (acS O) fun W1 H=>jP ?_)
  refine AO (DF (Dz O (AQ O (jo ?_))))
  clear H;intro _ An cn _ H;simp only[Bv,Nat.reduceAdd]at H
  refine EM O (AZ (aS ?_))
  rw[←Ob.agk]at H
  exact⟨_,_,Y,rfl,i+1,_,_,Y,rfl,rfl,rfl,rfl,rfl,rfl,H⟩
 ·obtain rfl:i=n:=Y
  refine oh ?_
  refine Dz O (EM O (xA ?_))
  refine Fh (v:= .slice _ _ _) (v2:= .int _ _) O O O ?_
  exact⟨_,_,rfl,H⟩
end
end
end
section
section
open Go.RowKit
def KG(w:World)(F:List Nat)(A:Option Addr)(hs:List Ob.H3):Prop:=hs.length≠0→∃b o,A=some ⟨b,o,none⟩∧b∉F∧∀i h,hs[i]? =some h→Reads (fun v:Value=>v) w b (o+i*3) [.int .i64 h.1,.int .i64 h.2.1,.int .i64 h.2.2]
theorem KG.later{w W:World}{F G:List Nat}{A:Option Addr}{hs:List Ob.H3}(h:KG w F A hs)(hO:Only G w W)(hG:∀i∈G,i∈F):KG W F A hs:=fun h0=>by
 obtain⟨b,o,e,hb,hr⟩:=h h0
 exact⟨b,o,e,hb,fun i x hi=>(hr i x hi).later hO (fun hm=>hb (hG b hm))⟩
theorem KG.mono{w:World}{F G:List Nat}{A:Option Addr}{hs:List Ob.H3}(h:KG w F A hs)(hG:∀i∈G,i∈F):KG w G A hs:=fun h0=>by
 obtain⟨b,o,e,hb,hr⟩:=h h0
 exact⟨b,o,e,fun hm=>hb (hG b hm),hr⟩
def hsW(hs:List Ob.H3):Prop:=∀h∈hs,(-9223372036854775808≤h.2.2∧h.2.2≤9223372036854775807)
theorem amH(A:Option Addr)(n c:Nat)(hs:List Ob.H3)(b:Nat)(w:World)(hS:KG w [] A hs)(hl:hs.length=n)(hn:n≤1000000)(hb:b≤1000000)(hW:hsW hs):
 Calls prog 176 [.slice A n c,.int .i64 b].toArray w fun e w'=>e= .returned (.tuple [.int .i64 (Ob.YC hs b),.bool (Ob.whole hs b)].toArray)∧Only [] w w':=by
 have H:=Heap.nil w
 by_cases hlt:b<n
 ·obtain⟨h,hh⟩:∃h,hs[b]? =some h:=⟨_,Ba Y⟩
  have hwb:=hW h (BP hh)
  obtain⟨q,o,rfl,_,hrd⟩:=hS Y
  have hre:=hrd b h hh
  have c0:=hre 0 _ rfl
  have c2:=hre 2 _ rfl
  by_cases hk:h.1=2
  ·by_cases hr:1≤h.2.2∧h.2.2≤(n:Int)-b
   ·obtain⟨m,hm⟩:∃m:Nat,h.2.2=m:=⟨h.2.2.toNat,Y⟩
    have hwh:Ob.whole hs b=Ob.NP hs b m:=by
     unfold Ob.whole;rw[hh];simp only[hl];rw[decide_eq_true hk,decide_eq_true hr,hm,BJ];rfl
    have hwl:Ob.YC hs b=if Ob.NP hs b m=true then(m:Int)else 0:=by
     unfold Ob.YC;rw[hwh,hh];simp only[hm]
    rw[hwl,hwh]
    rw[hm]at c2
    refine BO 54 func176 O (AP (oQ ?_))
    refine Bo 31 O (Jy O O Y) (gQ ?_)
    refine vT ?_
    refine EO (fun z f W=>∃(i:Nat),1≤i∧i≤m∧z=m-i∧Ob.NP hs b i=true∧f 0= .slice (some ⟨q,o,none⟩) n c∧f 1= .int .i64 b∧f 6= .int .i64 m∧f 7= .int .i64 i∧Heap w [] [] W) (m-1) ⟨1,Y,Y,rfl,rfl,rfl,rfl,rfl,rfl,H⟩ ?_
    clear H
    rintro z f W ⟨i,hi1,hi,rfl,hwt,f0,f1,f6,f7,H⟩
    obtain⟨f,rfl⟩:=Jj f0 f1 f6 f7
    clear f0 f1 f6 f7
    by_cases hit:i<m
    ·obtain⟨y,hy⟩:∃y,hs[b+i]? =some y:=⟨_,Ba Y⟩
     have hry:=hrd (b+i) y hy
     obtain⟨y1,y2,y3⟩:=y
     have hsu:=Ob.aew hs b i
     rw[hwt,Gy,decide_eq_false (by omega:¬i=0),Bool.false_or,hy]at hsu
     by_cases e:y1=3∧y2=0∧y3=i
     ·obtain⟨rfl,rfl,rfl⟩:=e
      rw[decide_eq_true rfl]at hsu
      refine wC ?_
      refine AV (ZA (enc:=fun v:Value=>v) (zs:=[.int .i64 3,.int .i64 0,.int .i64 i]) (hry.later H.only J) O O Ir Eu) (AQ O (AV (FI (acW _ _) O) (AV (apA (q:=false) O O Aw Aw Aw Aw underlying3 underlying3 underlying3 J) (xJ ?_))))
      exact⟨_,_,Y,rfl,i+1,Y,Y,rfl,hsu,rfl,rfl,rfl,rfl,H⟩
     ·have hne:¬Ob.NP hs b m=true:=fun hm2=>by
       have h1:=Ob.ady hm2 (show i+1≤m by omega)
       rw[hsu]at h1
       have h2:=of_decide_eq_true h1
       injection h2 with h2
       injection h2 with h2 h3
       injection h3 with h3 h4
       exact e ⟨h2,h3,h4⟩
      have hfa:Ob.NP hs b m=false:=by simpa using hne
      rw[if_neg hne,hfa]
      refine wC ?_
      refine AV (ZA (enc:=fun v:Value=>v) (zs:=[.int .i64 y1,.int .i64 y2,.int .i64 y3]) (hry.later H.only J) O O Ir Eu) (AQ O (AV (FI (acW _ _) O) (AV (apA (q:=true) O O Aw Aw Aw Aw underlying3 underlying3 underlying3 (by simpa using e)) (oV ?_))))
      refine oG ?_
      refine kL ?_
      refine dS ?_
      exact⟨rfl,H.only⟩
    ·obtain rfl:i=m:=Y
     rw[if_pos hwt,hwt]
     refine iQ ?_
     refine AQ O (og ?_)
     refine AP (AQ O (vG ?_))
     exact⟨rfl,H.only⟩
   ·have hwh:Ob.whole hs b=false:=by
     unfold Ob.whole;rw[hh];simp only[hl];rw[decide_eq_false hr];simp
    have hwl:Ob.YC hs b=0:=by unfold Ob.YC;rw[hwh];rfl
    rw[hwl,hwh]
    by_cases h1:h.2.2<1
    ·refine BO 54 func176 O (AP (oG ?_))
     refine kH ?_
     refine qG ?_
     refine Df 31 O O (Df 31 O O (Df 31 O O (Df 31 O O (Df 31 O O (Df 31 O O (EZ O O (qh ?_)))))))
     exact⟨rfl,H.only⟩
    ·refine BO 54 func176 O (AP (oQ ?_))
     refine Bo 31 O (Oz O O Y) (DW O O (qh ?_))
     exact⟨rfl,H.only⟩
  ·have hwh:Ob.whole hs b=false:=by
    unfold Ob.whole;rw[hh];simp only[hl];rw[decide_eq_false hk];rfl
   have hwl:Ob.YC hs b=0:=by unfold Ob.YC;rw[hwh];rfl
   rw[hwl,hwh]
   refine BO 54 func176 O (AP (oG ?_))
   refine iQ ?_
   refine AV (Di O O Y) (bP ?_)
   refine Bo 16 O (Jr O O Y) (DW O O (qh ?_))
   exact⟨rfl,H.only⟩
 ·have hno:hs[b]? =none:=DX Y
  have hwh:Ob.whole hs b=false:=by unfold Ob.whole;rw[hno]
  have hwl:Ob.YC hs b=0:=by unfold Ob.YC;rw[hwh];rfl
  rw[hwl,hwh]
  refine BO 54 func176 O (AP (oG ?_))
  refine iQ ?_
  refine AV (Di O O Y) (BX O (Bo 10 O (Gm O) (Bo 10 O (rms O) (Bo 10 O (Gw O underlying128) (Bo 10 O (GI O O Y) (DW O O (BX O (Df 16 O O (Df 16 O O (Df 16 O O (Df 16 O O (Df 16 O O (Df 16 O O ?_)))))))))))))
  refine EZ O O (qh ?_)
  exact⟨rfl,H.only⟩
theorem afA{g:Geo}{d:Nv.D}{w:World}(hE:Dj (Dy g d) w)(hw:Ob.Qv d.cache)(hl:d.cache.length≤1000000000)(A:Option Addr)(k c:Nat)(hs:List Ob.H3)(hS:KG w [] A hs)(hk:hs.length=k)(hk2:k≤1000000)(hW:hsW hs)(n:Nat)(hn:n≤1000000)(a:Int)(ha: -9223372036854775808≤a∧a≤9223372036854775807):
 Calls prog 137 [ptr g.p,.agg [.int .i64 n].toArray,.slice A k c,.int .i64 a].toArray w fun e w'=>(∃P D:Int,e= .returned (.tuple [.agg [.int .i64 P,.int .i64 D].toArray,.bool (Ob.pl n d.cache hs a)].toArray)∧(Ob.pl n d.cache hs a=true→P=Ob.hp d.cache a∧D=Ob.hq d.cache a))∧Only [] w w':=by
 have HR:=Heap.start hE
 have H:=Heap.nil w
 have hB:=fun(W:World)=>acJ n a W Y ha
 by_cases hin:512≤a∧a<512*(n:Int)
 ·obtain⟨b,hb⟩:∃b:Nat,a/512=b:=⟨(a/512).toNat,Y⟩
  have hbo:JF n a=b:=by unfold JF;rw[if_pos Y];exact hb
  rw[hbo]at hB
  by_cases hbk:b<k
  ·obtain⟨h,hh⟩:∃h,hs[b]? =some h:=⟨_,Ba Y⟩
   have hHd:=fun{W:World} (h:Only [] w W)=>aaR (HR.same h).ents hw hl a ha
   cases hd:Ob.hd d.cache a with
   |false=>
    have hp:Ob.pl n d.cache hs a=false:=by unfold Ob.pl;rw[hd];simp
    have he:Ob.he d.cache a=22:=by unfold Ob.he;rw[hd];rfl
    rw[hp]
    rw[he]at hHd
    refine BO 87 func137 O (AP (D9 H O O fun p5 _ H=>Ei H O G8 fun p8 _ H=>uJ ?_))
    refine BL H O (hB _) (Wq O) fun W1 H=>je ?_
    refine BL H O (hHd H.only) (Vy O) fun W1 H=>gX ?_
    refine Ei H O G8 fun p11 _ H=>iH ?_
    clear H;refine axS fun _ H=>?_
    refine lV ?_
    refine AV (Jr O O Y) (rV ?_)
    refine En H 1 O O O O O O O DV ?_
    clear H;refine axS fun _ H=>?_
    refine BH O (AO (BM (Dx (ND O (JB H 1 O O O Fa DV) (Jt (v:= .bool _) O) ?_))))
    exact⟨⟨0,0,rfl,fun h=>by cases h⟩,H.only⟩
   |true=>
    have hpq:=Ob.QS hw a
    have he:Ob.he d.cache a=0:=by unfold Ob.he;rw[hd];rfl
    rw[he]at hHd
    have hp:Ob.pl n d.cache hs a=Ob.agS n d.cache hs a h:=by
     unfold Ob.pl;rw[hd,decide_eq_true hin,hb,BJ,hh];rfl
    rw[hp]
    obtain⟨q,o,rfl,_,hrd⟩:=hS Y
    have hre:=hrd b h hh
    have hSm:=fun(W:World)=>aeN (Ob.hp d.cache a) (Ob.hq d.cache a) W Y Y
    have hsb:=Cl.ZT (Ob.hp d.cache a) (Ob.hq d.cache a)
    unfold Ob.agS
    generalize hP:Ob.hp d.cache a=P at*
    generalize hQ:Ob.hq d.cache a=Q at*
    have hBl:=fun(W:World)=>akC P Q W Y Y
    have hFi:=fun(W:World)=>ais n b W Y Y
    generalize Cl.size P Q=sz at*
    cases hob:Cl.ofB sz with
    |true=>
     have hkb:=Cl.YJ sz
     generalize Cl.Yo sz=kk at*
     have hAt:=fun(W:World)=>avV n kk a W Y hin Y
     rw[hob]at hSm
     rw[if_pos rfl]
     rw[hb]at hAt⊢
     cases hat:(Ce.address n kk b (a%512/Cl.words kk)==a)with
     |true=>
      rw[hat]at hAt
      rw[Gy]
      obtain⟨h1,h2,h3⟩:=h
      have hde:decide (h1=1∧h2=kk∧h3=0)=decide ((h1,h2,h3)=(1,kk,0)):=by
       rw[decide_eq_decide];simp
      refine BO 87 func137 O (AP (D9 H O O fun p5 _ H=>Ei H O G8 fun p8 _ H=>uJ ?_))
      refine BL H O (hB _) (Wq O) fun W1 H=>je ?_
      refine BL H O (hHd H.only) (Vy O) fun W1 H=>gX ?_
      refine Ei H O G8 fun p11 _ H=>iH ?_
      clear H;refine axS fun _ H=>?_
      refine vV ?_
      refine AP (Dz O (AQ O (AV (OO (i:=b) O O Y Y underlying128 Eu) (AV (ZA (enc:=fun v:Value=>v) (zs:=[.int .i64 h1,.int .i64 h2,.int .i64 h3]) (hre.later H.only J) O O Ir Eu) (Ei H O Jf fun p13 _ H=>vF ?_)))))
      clear H;refine axS fun _ H=>?_
      refine AO (AP (mV ?_))
      refine BL H O (hSm _) (X3 O) fun W1 H=>nP ?_
      refine oV ?_
      refine Dw H 3 O O O Ic He (AQ O (AQ O (BL H O (hAt _) (apx O) fun W1 H=>cO ?_)))
      refine Ei H O amj fun p16 _ H=>En H 0 O O O O O O O aqo ?_
      clear H;refine axS fun _ H=>?_
      refine BH O (AO (A8 ?_))
      refine G5 mixed ?_;replace H:=H.drew
      refine dQ ?_
      refine EC 4 O O (ET 60 Aw O) (fun _ hS=>Cc (v:= .int _ _) O) trivial (EC 5 O O (ET 60 Aw O) (fun _ hS=>FI (adh _ _) O) trivial ?_)
      refine Et 0 3 ?_ ?_
      ·refine CB O (Dw H 2 O O O Fa DV (ak ?_))
       refine Et 3 8 ?_ ?_
       ·refine CB O (wK ?_)
        refine BD 8 O (En H 3 O O O O O O O DV ?_)
        clear H;refine axS fun _ H=>?_
        refine ak ?_
        refine jc ?_
        exact⟨⟨P,Q,rfl,fun _=>⟨rfl,rfl⟩⟩,H.only⟩
       ·refine CB O (En H 3 O O O O O O O DV ?_)
        clear H;refine axS fun _ H=>?_
        refine lY ?_
        refine wK ?_
        refine jc ?_
        exact⟨⟨P,Q,rfl,fun _=>⟨rfl,rfl⟩⟩,H.only⟩
      ·refine CB O (wK ?_)
       refine BD 0 O (Dw H 2 O O O Fa DV (rY ?_))
       refine En H 3 O O O O O O O DV ?_
       clear H;refine axS fun _ H=>?_
       refine ak ?_
       refine jc ?_
       exact⟨⟨P,Q,rfl,fun _=>⟨rfl,rfl⟩⟩,H.only⟩
     |false=>
      rw[hat]at hAt
      rw[Jc]
      refine BO 87 func137 O (AP (D9 H O O fun p5 _ H=>Ei H O G8 fun p8 _ H=>uJ ?_))
      refine BL H O (hB _) (Wq O) fun W1 H=>je ?_
      refine BL H O (hHd H.only) (Vy O) fun W1 H=>gX ?_
      refine Ei H O G8 fun p11 _ H=>iH ?_
      clear H;refine axS fun _ H=>?_
      refine AY O (AO (rX ?_))
      refine Ei H O Jf fun p13 _ H=>vF ?_
      clear H;refine axS fun _ H=>?_
      refine AO (AP (mV ?_))
      refine BL H O (hSm _) (X3 O) fun W1 H=>nP ?_
      refine oV ?_
      refine Dw H 3 O O O Ic He (AQ O (AQ O (BL H O (hAt _) (apx O) fun W1 H=>cO ?_)))
      refine Ei H O amj fun p16 _ H=>En H 0 O O O O O O O aqo ?_
      clear H;refine axS fun _ H=>?_
      refine BH O (AO (A8 ?_))
      refine G5 mixed ?_;replace H:=H.drew
      refine dQ ?_
      refine ZQ 3 O O (Gj 60 Aw O O) trivial (ZQ 4 O O (Gj 60 Aw O O) trivial (ZQ 5 O O (Gj 60 Aw O O) trivial (ZQ 6 O O (Gj 60 Aw O O) trivial (EC 7 O O O (fun _ hS=>LV (v:= .bool _) O O) trivial (BD 0 O (Dw H 2 O O O Fa DV (rY ?_)))))))
      refine En H 3 O O O O O O O DV ?_
      clear H;refine axS fun _ H=>?_
      refine ak ?_
      refine jc ?_
      exact⟨⟨P,Q,rfl,fun _=>⟨rfl,rfl⟩⟩,H.only⟩
    |false=>
     rw[hob]at hSm
     rw[if_neg J,hb,BJ]
     have hWh:=fun{W:World} (h:Only [] w W)=>amH (some ⟨q,o,none⟩) k c hs b W (hS.later h J) hk hk2 Y hW
     cases hwh:Ob.whole hs b with
     |true=>
      have hwl:Ob.YC hs b=h.2.2:=by unfold Ob.YC;rw[hwh,hh];rfl
      rw[hwh,hwl]at hWh
      rw[Gy]
      by_cases hf:a=Ce.first n b
      ·rw[decide_eq_true hf,Gy]
       by_cases hbl:h.2.2=Oh.blocks P Q
       ·rw[decide_eq_true hbl]
        refine BO 87 func137 O (AP (D9 H O O fun p5 _ H=>Ei H O G8 fun p8 _ H=>uJ ?_))
        refine BL H O (hB _) (Wq O) fun W1 H=>je ?_
        refine BL H O (hHd H.only) (Vy O) fun W1 H=>gX ?_
        refine Ei H O G8 fun p11 _ H=>iH ?_
        clear H;refine axS fun _ H=>?_
        refine AY O (AO (rX ?_))
        refine Ei H O Jf fun p13 _ H=>vF ?_
        clear H;refine axS fun _ H=>?_
        refine AO (AP (mV ?_))
        refine BL H O (hSm _) (X3 O) fun W1 H=>wP ?_
        refine BL H O (hWh H.only) (agb O) fun W1 H=>aF ?_
        refine AO (A8 ?_)
        refine G5 mixed ?_;replace H:=H.drew
        refine iK ?_
        refine Et 0 4 ?_ ?_
        ·refine oq ?_
         rintro e W1 ⟨rfl,H'⟩
         refine⟨_,rfl,?_⟩
         have H:=H.same H';clear H'
         refine aW ?_
         refine eP ?_
         rintro e W1 ⟨rfl,H'⟩
         refine⟨_,rfl,?_⟩
         have H:=H.same H';clear H'
         refine ak ?_
         refine lG ?_
         refine dH ?_
         clear H;refine axS fun _ H=>?_
         refine bT ?_
         exact⟨⟨P,Q,rfl,fun _=>⟨rfl,rfl⟩⟩,H.only⟩
        ·refine CB O (Bo 74 O (J5 H 3 O O O Ic He) (ak ?_))
         refine Et 0 6 ?_ ?_
         ·refine rO ?_
          refine BD 6 O (jS ?_)
          rintro e W1 ⟨rfl,H'⟩
          refine⟨_,rfl,?_⟩
          have H:=H.same H';clear H'
          refine aW ?_
          refine eP ?_
          rintro e W1 ⟨rfl,H'⟩
          refine⟨_,rfl,?_⟩
          have H:=H.same H';clear H'
          refine ak ?_
          refine lG ?_
          refine dH ?_
          clear H;refine axS fun _ H=>?_
          refine bT ?_
          exact⟨⟨P,Q,rfl,fun _=>⟨rfl,rfl⟩⟩,H.only⟩
         ·refine CB O (jS ?_)
          rintro e W1 ⟨rfl,H'⟩
          refine⟨_,rfl,?_⟩
          have H:=H.same H';clear H'
          refine aW ?_
          refine Et 0 11 ?_ ?_
          ·refine rO ?_
           refine eP ?_
           rintro e W1 ⟨rfl,H'⟩
           refine⟨_,rfl,?_⟩
           have H:=H.same H';clear H'
           refine ak ?_
           refine lG ?_
           refine dH ?_
           clear H;refine axS fun _ H=>?_
           refine bT ?_
           exact⟨⟨P,Q,rfl,fun _=>⟨rfl,rfl⟩⟩,H.only⟩
          ·refine CB O (Bo 81 O (J5 H 1 O O O Fa DV) (ak ?_))
           refine Et 0 12 ?_ ?_
           ·refine rO ?_
            refine BD 12 O (s_call (ET 81 Aw O) (hBl _) (WH O) ?_)
            rintro e W1 ⟨rfl,H'⟩
            refine⟨_,rfl,?_⟩
            have H:=H.same H';clear H'
            refine ak ?_
            refine lG ?_
            refine dH ?_
            clear H;refine axS fun _ H=>?_
            refine bT ?_
            exact⟨⟨P,Q,rfl,fun _=>⟨rfl,rfl⟩⟩,H.only⟩
           ·refine CB O (s_call (ET 81 Aw O) (hBl _) (WH O) ?_)
            rintro e W1 ⟨rfl,H'⟩
            refine⟨_,rfl,?_⟩
            have H:=H.same H';clear H'
            refine ak ?_
            refine lG ?_
            refine EC 14 O O O (fun _ hS=>Iz (v:= .bool _) O O) trivial (nT ?_)
            clear H;refine axS fun _ H=>?_
            refine bT ?_
            exact⟨⟨P,Q,rfl,fun _=>⟨rfl,rfl⟩⟩,H.only⟩
       ·rw[decide_eq_false hbl]
        refine BO 87 func137 O (AP (D9 H O O fun p5 _ H=>Ei H O G8 fun p8 _ H=>uJ ?_))
        refine BL H O (hB _) (Wq O) fun W1 H=>je ?_
        refine BL H O (hHd H.only) (Vy O) fun W1 H=>gX ?_
        refine Ei H O G8 fun p11 _ H=>iH ?_
        clear H;refine axS fun _ H=>?_
        refine AY O (AO (rX ?_))
        refine Ei H O Jf fun p13 _ H=>vF ?_
        clear H;refine axS fun _ H=>?_
        refine AO (AP (mV ?_))
        refine BL H O (hSm _) (X3 O) fun W1 H=>wP ?_
        refine BL H O (hWh H.only) (agb O) fun W1 H=>aF ?_
        refine AO (A8 ?_)
        refine G5 mixed ?_;replace H:=H.drew
        refine iK ?_
        refine Et 0 4 ?_ ?_
        ·refine oq ?_
         rintro e W1 ⟨rfl,H'⟩
         refine⟨_,rfl,?_⟩
         have H:=H.same H';clear H'
         refine aW ?_
         refine eP ?_
         rintro e W1 ⟨rfl,H'⟩
         refine⟨_,rfl,?_⟩
         have H:=H.same H';clear H'
         refine ak ?_
         refine lF ?_
         refine dH ?_
         clear H;refine axS fun _ H=>?_
         refine bT ?_
         exact⟨⟨P,Q,rfl,fun _=>⟨rfl,rfl⟩⟩,H.only⟩
        ·refine CB O (Bo 74 O (J5 H 3 O O O Ic He) (ak ?_))
         refine Et 0 6 ?_ ?_
         ·refine rO ?_
          refine BD 6 O (jS ?_)
          rintro e W1 ⟨rfl,H'⟩
          refine⟨_,rfl,?_⟩
          have H:=H.same H';clear H'
          refine aW ?_
          refine eP ?_
          rintro e W1 ⟨rfl,H'⟩
          refine⟨_,rfl,?_⟩
          have H:=H.same H';clear H'
          refine ak ?_
          refine lF ?_
          refine dH ?_
          clear H;refine axS fun _ H=>?_
          refine bT ?_
          exact⟨⟨P,Q,rfl,fun _=>⟨rfl,rfl⟩⟩,H.only⟩
         ·refine CB O (jS ?_)
          rintro e W1 ⟨rfl,H'⟩
          refine⟨_,rfl,?_⟩
          have H:=H.same H';clear H'
          refine aW ?_
          refine Et 0 11 ?_ ?_
          ·refine rO ?_
           refine eP ?_
           rintro e W1 ⟨rfl,H'⟩
           refine⟨_,rfl,?_⟩
           have H:=H.same H';clear H'
           refine ak ?_
           refine lF ?_
           refine dH ?_
           clear H;refine axS fun _ H=>?_
           refine bT ?_
           exact⟨⟨P,Q,rfl,fun _=>⟨rfl,rfl⟩⟩,H.only⟩
          ·refine CB O (Bo 81 O (J5 H 1 O O O Fa DV) (ak ?_))
           refine Et 0 12 ?_ ?_
           ·refine rO ?_
            refine BD 12 O (s_call (ET 81 Aw O) (hBl _) (WH O) ?_)
            rintro e W1 ⟨rfl,H'⟩
            refine⟨_,rfl,?_⟩
            have H:=H.same H';clear H'
            refine ak ?_
            refine lF ?_
            refine dH ?_
            clear H;refine axS fun _ H=>?_
            refine bT ?_
            exact⟨⟨P,Q,rfl,fun _=>⟨rfl,rfl⟩⟩,H.only⟩
           ·refine CB O (s_call (ET 81 Aw O) (hBl _) (WH O) ?_)
            rintro e W1 ⟨rfl,H'⟩
            refine⟨_,rfl,?_⟩
            have H:=H.same H';clear H'
            refine ak ?_
            refine lF ?_
            refine EC 14 O O O (fun _ hS=>Iz (v:= .bool _) O O) trivial (nT ?_)
            clear H;refine axS fun _ H=>?_
            refine bT ?_
            exact⟨⟨P,Q,rfl,fun _=>⟨rfl,rfl⟩⟩,H.only⟩
      ·rw[decide_eq_false hf,Jc]
       refine BO 87 func137 O (AP (D9 H O O fun p5 _ H=>Ei H O G8 fun p8 _ H=>uJ ?_))
       refine BL H O (hB _) (Wq O) fun W1 H=>je ?_
       refine BL H O (hHd H.only) (Vy O) fun W1 H=>gX ?_
       refine Ei H O G8 fun p11 _ H=>iH ?_
       clear H;refine axS fun _ H=>?_
       refine AY O (AO (rX ?_))
       refine Ei H O Jf fun p13 _ H=>vF ?_
       clear H;refine axS fun _ H=>?_
       refine AO (AP (mV ?_))
       refine BL H O (hSm _) (X3 O) fun W1 H=>wP ?_
       refine BL H O (hWh H.only) (agb O) fun W1 H=>aF ?_
       refine AO (A8 ?_)
       refine G5 mixed ?_;replace H:=H.drew
       refine iK ?_
       refine Et 0 4 ?_ ?_
       ·refine oq ?_
        rintro e W1 ⟨rfl,H'⟩
        refine⟨_,rfl,?_⟩
        have H:=H.same H';clear H'
        refine ak ?_
        refine jq ?_
        refine BD 15 O (En H 2 O O O O O O O DV ?_)
        clear H;refine axS fun _ H=>?_
        refine bT ?_
        exact⟨⟨P,Q,rfl,fun _=>⟨rfl,rfl⟩⟩,H.only⟩
       ·refine CB O (Bo 74 O (J5 H 3 O O O Ic He) (ak ?_))
        refine Et 0 6 ?_ ?_
        ·refine rO ?_
         refine BD 6 O (jS ?_)
         rintro e W1 ⟨rfl,H'⟩
         refine⟨_,rfl,?_⟩
         have H:=H.same H';clear H'
         refine ak ?_
         refine jq ?_
         refine BD 15 O (En H 2 O O O O O O O DV ?_)
         clear H;refine axS fun _ H=>?_
         refine bT ?_
         exact⟨⟨P,Q,rfl,fun _=>⟨rfl,rfl⟩⟩,H.only⟩
        ·refine CB O (jS ?_)
         rintro e W1 ⟨rfl,H'⟩
         refine⟨_,rfl,?_⟩
         have H:=H.same H';clear H'
         refine ak ?_
         refine jq ?_
         refine nT ?_
         clear H;refine axS fun _ H=>?_
         refine bT ?_
         exact⟨⟨P,Q,rfl,fun _=>⟨rfl,rfl⟩⟩,H.only⟩
     |false=>
      rw[hwh]at hWh
      rw[Jc]
      refine BO 87 func137 O (AP (D9 H O O fun p5 _ H=>Ei H O G8 fun p8 _ H=>uJ ?_))
      refine BL H O (hB _) (Wq O) fun W1 H=>je ?_
      refine BL H O (hHd H.only) (Vy O) fun W1 H=>gX ?_
      refine Ei H O G8 fun p11 _ H=>iH ?_
      clear H;refine axS fun _ H=>?_
      refine AY O (AO (rX ?_))
      refine Ei H O Jf fun p13 _ H=>vF ?_
      clear H;refine axS fun _ H=>?_
      refine AO (AP (mV ?_))
      refine BL H O (hSm _) (X3 O) fun W1 H=>wP ?_
      refine BL H O (hWh H.only) (agb O) fun W1 H=>aF ?_
      refine AO (A8 ?_)
      refine G5 mixed ?_;replace H:=H.drew
      refine dQ ?_
      refine ZQ 3 O O (Gj 74 Aw O O) trivial (ZQ 4 O O (Gj 74 Aw O O) trivial (ZQ 5 O O (Gj 74 Aw O O) trivial (ZQ 6 O O (Gj 74 Aw O O) trivial (ZQ 7 O O (Gj 74 Aw O O) trivial (EC 8 O O O (fun _ hS=>LV (v:= .bool _) O O) trivial (bW ?_))))))
      refine nT ?_
      clear H;refine axS fun _ H=>?_
      refine bT ?_
      exact⟨⟨P,Q,rfl,fun _=>⟨rfl,rfl⟩⟩,H.only⟩
  ·have hp:Ob.pl n d.cache hs a=false:=by unfold Ob.pl;rw[hb,BJ,DX Y];simp
   rw[hp]
   refine BO 87 func137 O (AP (D9 H O O fun p5 _ H=>Ei H O G8 fun p8 _ H=>uJ ?_))
   refine BL H O (hB _) (Wq O) fun W1 H=>bV ?_
   refine Bo 25 O (Gm O) (Bo 25 O (rms O) (Bo 25 O (Gw O underlying128) (Bo 25 O (GI O O Y) (DW O O (rV ?_)))))
   refine iH ?_
   clear H;refine axS fun _ H=>?_
   refine BH O (AO (BM (Dx (ND O (JB H 0 O O O Fa DV) (Jt (v:= .bool _) O) ?_))))
   exact⟨⟨0,0,rfl,fun h=>by cases h⟩,H.only⟩
 ·have hp:Ob.pl n d.cache hs a=false:=by unfold Ob.pl;rw[decide_eq_false hin];rfl
  have hbo:JF n a<1:=by unfold JF;split<;>omega
  rw[hp]
  generalize JF n a=bb at*
  refine BO 87 func137 O (AP (D9 H O O fun p5 _ H=>Ei H O G8 fun p8 _ H=>uJ ?_))
  refine BL H O (hB _) (Wq O) fun W1 H=>qG ?_
  refine Df 25 O O (Df 25 O O (Df 25 O O (Df 25 O O (EZ O O (rV ?_)))))
  refine iH ?_
  clear H;refine axS fun _ H=>?_
  refine BH O (AO (BM (Dx (ND O (JB H 0 O O O Fa DV) (Jt (v:= .bool _) O) ?_))))
  exact⟨⟨0,0,rfl,fun h=>by cases h⟩,H.only⟩
end
end
section
section
open Go.RowKit
section
variable{P:Program}{n:Sz}{f:Nat→Value}{W w0:World}{F:List Nat}{L:List FU}{dst:Option Tmp}{ty:TypeId}{pos:String}{af:Array Edge}{g:Option (Nat×Bool)}{x:Operand}{t:TypeId}
theorem afN{α:Type}{enc:α→Value}{size p i m c:Nat}{xs:List α}{T:TypeId}{z:α}(H:Heap w0 F L W)(j:Nat)(hx:ev n f x= .pointer (some ⟨p,i,none⟩))(hj:L[j]? =some (Ec size (.slice (some ⟨p,0,none⟩) m c) m (xs.map enc) T))(hv:xs[i]? =some z)
 (hagg:∀W,(isAgg t).run P W= .ok false W):(execOp (ev n f) ⟨dst,.load t x,ty,pos,af,g⟩).run P W= .ok (.value (enc z)) W:=by
 have ho:=H.JE j hj
 have hi:i<xs.length:=(BK.1 hv).1
 have hcell:=ho.cellAt i zF
 rw[Cb,hv]at hcell
 exact asW hcell hx hagg
end
theorem Heap.ahZ{α:Type}{enc:α→Value}{w0 W:World}{F:List Nat}{L:List FU}{b:Nat}{xs:List α}{T:TypeId}(H:Heap w0 F (vec enc b xs T::L) W)(h0:xs.length≠0):∃rs,Heap w0 F (blk b (xs.map enc++rs) T::L) W:=by
 obtain⟨rs,hr⟩:=H.ok _ (List.mem_cons_self) h0
 refine⟨rs,?_⟩
 have e:ids (blk b (xs.map enc++rs) T::L)=ids (vec enc b xs T::L):=by
  rw[Ep,Ep]
  show [b]++_=(if xs.length=0 then []else [b])++_
  rw[if_neg h0]
 refine⟨fun E hE=>?_,by rw[e];exact H.nd,by rw[e];exact H.own,H.only⟩
 rcases Dh.1 hE with rfl|h
 ·exact hr
 ·exact H.ok E (DZ _ h)
def hcs(hs:List Ob.H3):List Value:=hs.flatMap Ob.hcell
theorem OY(a b:List Ob.H3):hcs (a++b)=hcs a++hcs b:=by simp[hcs]
theorem VG:∀l:List Ob.H3,(hcs l).length=l.length*3
 | []=>rfl
 |q::l=>by
  have:=VG l
  show(Ob.hcell q++hcs l).length=_
  rw[Cj,this];simp[Ob.hcell];omega
theorem acp{l:List Ob.H3}{i:Nat}{q:Ob.H3}(h:l[i]? =some q):l=l.take i++ [q]++l.drop (i+1):=by
 obtain⟨h1,h2⟩:=BK.1 h
 rw[←h2,EK,UJ,←J4 h1,JV]
theorem afD{l:List Ob.H3}{rest:List Value}{i:Nat}{q:Ob.H3}(h:l[i]? =some q):((hcs l++rest).drop (i*3)).take 3=Ob.hcell q:=by
 have h1:=(BK.1 h).1
 have hl:(hcs (l.take i)).length=i*3:=by rw[VG,Ed];omega
 have e:hcs l++rest=hcs (l.take i)++(Ob.hcell q++(hcs (l.drop (i+1))++rest)):=by
  conv=>lhs;rw[acp h]
  rw[OY,OY];simp[hcs]
 rw[e,ZC hl];rfl
theorem aeD{l:List Ob.H3}{rest:List Value}{i:Nat}(a:Ob.H3)(hi:i<l.length):(hcs l++rest).take (i*3)++Ob.hcell a++(hcs l++rest).drop (i*3+3)=hcs (l.set i a)++rest:=by
 obtain⟨q,h⟩:∃q,l[i]? =some q:=⟨_,Ba hi⟩
 have hl:(hcs (l.take i)).length=i*3:=by rw[VG,Ed];omega
 have e:hcs l++rest=hcs (l.take i)++(Ob.hcell q++(hcs (l.drop (i+1))++rest)):=by
  conv=>lhs;rw[acp h]
  rw[OY,OY];simp[hcs]
 have e2:l.set i a=l.take i++ [a]++l.drop (i+1):=by rw[List.set_eq_take_append_cons_drop,if_pos hi];simp
 rw[e,PW hl,←aaK,ZC hl,e2,OY,OY]
 show hcs (l.take i)++Ob.hcell a++(hcs (l.drop (i+1))++rest)=_
 simp[hcs]
theorem alC{l:List Ob.H3}{rest:List Value}{i:Nat}{q:Ob.H3}(h:l[i]? =some q)(j:Nat)(u:Value)(hj:(Ob.hcell q)[j]? =some u):(hcs l++rest)[i*3+j]? =some u:=by
 have hp:=afD (rest:=rest) h
 have hj3:j<3:=by have:=(BK.1 hj).1;simpa [Ob.hcell]using this
 rw[←hp,ES hj3,EW]at hj
 exact hj
theorem afc(m:Nat):hcs (List.replicate m (0,0,0))=(List.replicate (m*3) (0:Int)).map (Value.int .i64):=by
 induction m with
 |zero=>rfl
 |succ m ih=>
  rw[Gz]
  show Ob.hcell (0,0,0)++hcs (List.replicate m (0,0,0))=_
  rw[ih,show(m+1)*3=m*3+1+1+1 by omega,Gz,Gz,Gz];rfl
def hrow(p:Nat)(hs:List Ob.H3)(rs:List Value):FU:=blk p (hcs hs++rs) 209
theorem Heap.al7{w0 W:World}{F:List Nat}{L:List FU}(H:Heap w0 F L W)(j:Nat){p:Nat}{hs:List Ob.H3}{rs:List Value}(hj:L[j]? =some (hrow p hs rs)):KG W [] (some ⟨p,0,none⟩) hs:=fun _=>by
 have hb:W.heap[p]? =some (.cells (hcs hs++rs).toArray 209 (0,0)):=H.ok _ (BP hj)
 refine⟨p,0,rfl,J,fun i h hi k u hk=>?_⟩
 have:=alC (rest:=rs) hi k u hk
 rw[EH]
 show W.cell? _=some u
 rw[Joins.cell_of_block hb]
 simpa using this
end
end
section
section
open Go.RowKit
def flp(l:IL):List Int:=l.flatMap fun q=> [q.1,q.2]
theorem Xc(a b:IL):flp (a++b)=flp a++flp b:=by simp[flp]
theorem ZU:∀l:IL,(flp l).length=l.length*2
 | []=>rfl
 |q::l=>by
  have:=ZU l
  show([q.1,q.2]++flp l).length=_
  rw[Cj,this];simp;omega
theorem ah4(a:IL)(q:Int×Int)(b:IL):(flp (a++q::b))[a.length*2]? =some q.1∧(flp (a++q::b))[a.length*2+1]? =some q.2∧∀v,(flp (a++q::b)).set (a.length*2+1) v=flp (a++(q.1,v)::b):=by
 have hl:=ZU a
 have e:flp (a++q::b)=flp a++q.1::q.2::flp b:=by rw[Xc];rfl
 rw[e]
 refine⟨by rw[Em Y,hl,Hw];rfl,by rw[Em Y,hl,show a.length*2+1-a.length*2=1 by omega];rfl,fun v=>?_⟩
 rw[LG _ _ Y,hl,show a.length*2+1-a.length*2=1 by omega,Xc];rfl
theorem arb{l:IL}{i:Nat}{q:Int×Int}(h:l[i]? =some q):(flp l)[i*2]? =some q.1∧(flp l)[i*2+1]? =some q.2:=by
 obtain⟨h1,h2⟩:=BK.1 h
 have e:l=l.take i++q::l.drop (i+1):=by rw[←h2,←J4 h1,JV]
 have hl:(l.take i).length=i:=by rw[Ed];omega
 have:=ah4 (l.take i) q (l.drop (i+1))
 rw[←e,hl]at this
 exact⟨this.1,this.2.1⟩
def QY(hs:List Ob.H3)(i:Int)(b:Int):Prop:=1≤b∧b<i∧∃h,hs[b.toNat]? =some h∧h.1=0
structure UO (hs:List Ob.H3) (i:Nat) (l:IL):Prop where
 ord:l.Pairwise fun p q=>p.1+p.2<q.1
 bd:∀p∈l,1≤p.1∧1≤p.2∧p.1+p.2≤i
 cov:∀b:Int,QY hs i b↔∃p∈l,p.1≤b∧b<p.1+p.2
theorem aaD{hs:List Ob.H3}{i:Nat}{h:Ob.H3}(hh:hs[i]? =some h)(hi:1≤i)(b:Int):QY hs (i+1:Nat) b↔QY hs i b∨b=i∧h.1=0:=by
 unfold QY
 constructor
 ·rintro⟨h1,h2,h3,h4,h5⟩
  by_cases e:b=i
  ·subst e
   rw[BJ,hh]at h4
   injection h4 with h4
   subst h4
   exact .inr ⟨rfl,h5⟩
  ·exact .inl ⟨h1,Y,h3,h4,h5⟩
 ·rintro(⟨h1,h2,h3⟩|⟨rfl,h2⟩)
  ·exact⟨h1,Y,h3⟩
  ·exact⟨Y,Y,h,by rw[BJ];exact hh,h2⟩
theorem UO.start(hs:List Ob.H3):UO hs 1 []:=⟨List.Pairwise.nil,J,fun b=>by
 constructor
 ·rintro⟨h1,h2,_⟩;omega
 ·rintro⟨p,hp,_⟩;simp at hp⟩
theorem UO.skip{hs:List Ob.H3}{i:Nat}{l:IL}{h:Ob.H3}(hk:UO hs i l)(hh:hs[i]? =some h)(hi:1≤i)(h0:h.1≠0):UO hs (i+1) l:=
 ⟨hk.ord,fun p hp=>by have:=hk.bd p hp;omega,fun b=>by
  rw[aaD hh hi,hk.cov]
  constructor
  ·rintro(h1|⟨_,h1⟩)
   ·exact h1
   ·exact absurd h1 h0
  ·exact .inl⟩
theorem UO.join{hs:List Ob.H3}{i:Nat}{a:IL}{s k:Int}{h:Ob.H3}(hk:UO hs i (a++ [(s,k)]))(hh:hs[i]? =some h)(hi:1≤i)(h0:h.1=0)(he:s+k=i):UO hs (i+1) (a++ [(s,k+1)]):=by
 obtain⟨o1,o2,o3⟩:=MG.1 hk.ord
 have hb:=hk.bd (s,k) J
 simp only at hb
 refine⟨MG.2 ⟨o1,J,fun x hx y hy=>?_⟩,fun p hp=>?_,fun b=>?_⟩
 ·have:=o3 x hx (s,k) J
  rw[Bz.1 hy];exact this
 ·rcases Ci.1 hp with hp|hp
  ·have:=hk.bd p (CO _ hp);omega
  ·rw[Bz.1 hp];simp only;omega
 ·rw[aaD hh hi,hk.cov]
  constructor
  ·rintro(⟨p,hp,h1⟩|⟨rfl,_⟩)
   ·rcases Ci.1 hp with hp|hp
    ·exact⟨p,CO _ hp,h1⟩
    ·rw[Bz.1 hp]at h1
     exact⟨(s,k+1),J,by simp only at h1⊢;omega⟩
   ·exact⟨(s,k+1),J,by simp only;omega⟩
  ·rintro⟨p,hp,h1⟩
   rcases Ci.1 hp with hp|hp
   ·exact .inl ⟨p,CO _ hp,h1⟩
   ·rw[Bz.1 hp]at h1
    simp only at h1
    by_cases e:b=i
    ·exact .inr ⟨e,h0⟩
    ·exact .inl ⟨(s,k),J,by simp only;omega⟩
theorem UO.new{hs:List Ob.H3}{i:Nat}{l:IL}{h:Ob.H3}(hk:UO hs i l)(hh:hs[i]? =some h)(hi:1≤i)(h0:h.1=0)(hlast:∀(a:IL) (s k:Int),l=a++ [(s,k)]→s+k≠i):UO hs (i+1) (l++ [((i:Int),1)]):=by
 have hend:∀p∈l,p.1+p.2<i:=by
  rcases JW l with rfl|⟨a,⟨s,k⟩,rfl⟩
  ·simp
  ·rw[JU]at*
   have h1:=hlast a s k rfl
   have h2:=hk.bd (s,k) J
   obtain⟨o1,o2,o3⟩:=MG.1 hk.ord
   intro p hp
   rcases Ci.1 hp with hp|hp
   ·have:=o3 p hp (s,k) J
    simp only at this h2;omega
   ·rw[Bz.1 hp];simp only at h2⊢;omega
 refine⟨MG.2 ⟨hk.ord,J,fun x hx y hy=>?_⟩,fun p hp=>?_,fun b=>?_⟩
 ·rw[Bz.1 hy];exact hend x hx
 ·rcases Ci.1 hp with hp|hp
  ·have:=hk.bd p hp;omega
  ·rw[Bz.1 hp];simp only;omega
 ·rw[aaD hh hi,hk.cov]
  constructor
  ·rintro(⟨p,hp,h1⟩|⟨rfl,_⟩)
   ·exact⟨p,CO _ hp,h1⟩
   ·exact⟨((i:Int),1),J,by simp only;omega⟩
  ·rintro⟨p,hp,h1⟩
   rcases Ci.1 hp with hp|hp
   ·exact .inl ⟨p,hp,h1⟩
   ·rw[Bz.1 hp]at h1
    simp only at h1
    exact .inr ⟨Y,h0⟩
theorem UO.len{hs:List Ob.H3}{i:Nat}:∀{l:IL},UO hs i l→l.length≤i:=by
 intro l hk
 have h:∀(l:IL) (m:Int),l.Pairwise (fun p q=>p.1+p.2<q.1)→(∀p∈l,m≤p.1∧1≤p.2∧p.1+p.2≤i)→m+l.length≤max m i+0:=by
  intro l
  induction l with
  |nil=>intro m _ _;simp;omega
  |cons p l ih=>
   intro m h1 h2
   obtain⟨h3,h4⟩:=QI.1 h1
   have h5:=h2 p J
   have:=ih (p.1+p.2) h4 fun q hq=>⟨by have:=h3 q hq;omega,(h2 q (by simp[hq])).2⟩
   simp only[Es]
   omega
 have:=h l 1 hk.ord fun p hp=>hk.bd p hp
 omega
theorem aof(A:Option Addr)(n c:Nat)(hs:List Ob.H3)(w:World)(hS:KG w [] A hs)(hl:hs.length=n)(hn:n≤10000)(hn1:1≤n):
 Calls prog 243 [.slice A n c].toArray w fun e w'=>∃(A':Option Addr) (c':Nat) (l:IL),e= .returned (.slice A' l.length c')∧UO hs n l∧Heap w [] [Ec 2 (.slice A' l.length c') l.length ((flp l).map (Value.int .i64)) 309] w':=by
 have H:=Heap.nil w
 refine BO 57 func243 O (AP (EM O (AO (AP (EM O (AO (vT ?_)))))))
 replace H:=H.Kr 2 309
 refine EO (fun z f W=>∃(i:Nat) (OA:Option Addr) (oc:Nat) (l:IL),1≤i∧i≤n∧z=n-i∧UO hs i l∧f 0= .slice A n c∧f 3= .slice OA l.length oc∧f 4= .int .i64 i∧Heap w [] [Ec 2 (.slice OA l.length oc) l.length ((flp l).map (Value.int .i64)) 309] W) (n-1) ⟨1,none,0,[],Y,hn1,rfl,UO.start hs,rfl,rfl,rfl,H⟩ ?_
 clear H
 rintro z f W ⟨i,OA,oc,l,hi1,hi,rfl,hk,f0,f3,f4,H⟩
 have hll:=hk.len
 by_cases hin:i<n
 ·obtain⟨h,hh⟩:∃h,hs[i]? =some h:=⟨_,Ba Y⟩
  obtain⟨q,o,rfl,_,hrd⟩:=hS Y
  have c0:=hrd i h hh 0 _ rfl
  obtain⟨f,rfl⟩:=KI f0 f3 f4
  clear f0 f3 f4
  by_cases h0:h.1=0
  ·rcases JW l with rfl|⟨a,⟨s,k⟩,rfl⟩
   ·have hk2:=hk.new hh hi1 h0 (fun a s k e=>by simp at e)
    simp only[Iu]at H⊢
    refine rJ ?_
    refine fA ?_
    refine BZ (fun _ H=>Gw O underlying262) (BZ (fun _ H=>Jy O O Y) (BZ (fun _ H=>Cc (v:= .bool _) O) (jh ?_)))
    refine jh ?_
    refine jh ?_
    refine jh ?_
    refine JZ O (Gj 27 Aw O O) (BZ (fun _ H=>LV (v:= .bool _) O O) (sD ?_))
    clear H;intro _ H
    refine qI ?_
    intro q9 _ H';clear H;have H:=H';clear H'
    refine aeW (enc:=(Value.int .i64)) (size:=2) H 0 O O O O (fun _=>rfl) Y Y underlying262 aat O ?_
    clear H;intro A2 c2 _ H;simp only[Bv,Nat.reduceAdd]at H
    refine EM O (AZ (CS (nY ?_)))
    exact⟨_,_,Y,rfl,i+1,A2,c2,[((i:Int),1)],Y,Y,rfl,hk2,rfl,rfl,rfl,H⟩
   ·rw[JU]at*
    have hal:(a++ [(s,k)]).length=a.length+1:=by simp
    obtain⟨p,rfl⟩:=H.JO 0 rfl Y
    obtain⟨m1,m2,m3⟩:=ah4 a (s,k) []
    have hb:=hk.bd (s,k) J
    simp only at hb m1 m2
    by_cases he:s+k=i
    ·have hk2:=hk.join hh hi1 h0 he
     have hal2:(a++ [(s,k+1)]).length=a.length+1:=by simp
     rw[hal]at H hll⊢
     refine rJ ?_
     refine bI ?_
     refine Iq 27 O (fun _ H=>D7 O O Y) (BZ (fun _ H=>Iz (v:= .bool _) O O) (sD ?_))
     clear H;intro _ H
     refine AX (EF O (DF (Dz O (Dz O (Eb O underlying262 (mD ?_))))))
     refine AV (QX (i:=a.length) O O Y Y underlying262 Yk) (AV (Nz O Xv) (AV (afN H 0 O O m2 FM) (dw ?_)))
     refine AV (QX (i:=a.length) O O Y Y underlying262 Yk) (AV (Nz O Xv) ?_)
     refine auH (enc:=Value.int .i64) H 0 O O O O O (by rw[ZU,hal];omega) O Ji ?_
     clear H;refine axS fun _ H=>?_
     refine AZ (CS (nY ?_))
     rw[m3]at H
     exact⟨_,_,Y,rfl,i+1,some ⟨p,0,none⟩,oc,a++ [(s,k+1)],Y,Y,rfl,hk2,rfl,by rw[hal2];rfl,rfl,by rw[hal2];exact H⟩
    ·have hk2:=hk.new hh hi1 h0 (fun a' s' k' e=>by
      have e2:=List.append_inj_right' e rfl
      injection e2 with e2
      injection e2 with e3 e4
      rw[←e3,←e4];exact he)
     have hal3:(a++ [(s,k)]++ [((i:Int),1)]).length=a.length+1+1:=by simp
     rw[hal]at H hll⊢
     refine rJ ?_
     refine bI ?_
     refine Iq 27 O (fun _ H=>D5 O O Y) (BZ (fun _ H=>Iz (v:= .bool _) O O) (sD ?_))
     clear H;intro _ H
     refine qI ?_
     intro q9 _ H';clear H;have H:=H';clear H'
     refine aeW (enc:=(Value.int .i64)) (size:=2) H 0 O O O O (fun _=>rfl) Y Y underlying262 aat O ?_
     clear H;intro A2 c2 _ H;simp only[Bv,Nat.reduceAdd]at H
     refine EM O (AZ (CS (nY ?_)))
     have e4:flp (a++ [(s,k)])++ [(i:Int),1]=flp (a++ [(s,k)]++ [((i:Int),1)]):=by rw[Xc (a++ [(s,k)])];rfl
     rw[e4]at H
     exact⟨_,_,Y,rfl,i+1,A2,c2,_,Y,Y,rfl,hk2,rfl,by rw[hal3];rfl,rfl,by rw[hal3];exact H⟩
  ·have hk2:=hk.skip hh hi1 h0
   refine ji ?_
   refine fC ?_
   refine E8 (AP (iy ?_))
   refine AV (Jr O O Y) (BH O (AO (EF O (Bj (CS (nY ?_))))))
   exact⟨_,_,Y,rfl,i+1,OA,oc,l,Y,Y,rfl,hk2,rfl,rfl,rfl,H⟩
 ·obtain rfl:i=n:=Y
  obtain⟨f,rfl⟩:=KI f0 f3 f4
  clear f0 f3 f4
  refine ji ?_
  refine og ?_
  refine AP (Dz O (rW ?_))
  exact⟨OA,oc,l,rfl,hk,H⟩
end
end
section
section
open Go.RowKit
def aqw(w:World)(F:List Nat)(A:Option Addr)(l:IL):Prop:=l.length≠0→∃b o,A=some ⟨b,o,none⟩∧b∉F∧∀i q,l[i]? =some q→Reads (fun v:Value=>v) w b (o+i*2) [.int .i64 q.1,.int .i64 q.2]
theorem Heap.acg{w0 W:World}{F:List Nat}{L:List FU}(H:Heap w0 F L W)(j:Nat){A:Option Addr}{c:Nat}{l:IL}{T:TypeId}(hj:L[j]? =some (Ec 2 (.slice A l.length c) l.length ((flp l).map (Value.int .i64)) T)):aqw W [] A l:=fun h0=>by
 obtain⟨b,e,_,hr⟩:=H.SQ j hj (by rw[ZU];omega)
 refine⟨b,0,e,J,fun i q hi k u hk=>?_⟩
 obtain⟨h1,h2⟩:=arb hi
 match k,hk with
 |0,hk=>
  injection hk with hk
  have:=hr _ _ h1
  rw[EH]at this⊢
  rw[←hk];exact this
 |1,hk=>
  injection hk with hk
  have:=hr _ _ h2
  rw[EH]at this⊢
  rw[←hk];exact this
theorem amG(n:Nat)(A:Option Addr)(c:Nat)(hs:List Ob.H3)(l:IL)(w:World)(hS:aqw w [] A l)(hk:UO hs n l)(hn:n≤10000):
 Calls prog 180 [.int .i64 n,.slice A l.length c].toArray w fun e w'=>∃p bS bE S E,e= .returned (.tuple #[Y8 p,.int .i64 0])∧Rn.Ok S E n (QY hs n)∧Heap w [] (RI p bS bE S E n) w':=by
 have H:=Heap.nil w
 have hll:=hk.len
 refine BO 29 func180 O (AP (Fb O (xK ?_)))
 refine s_call O (atu n _ Y) (avA O) ?_
 rintro e W1 ⟨p,bS,bE,rfl,H'⟩
 refine⟨_,rfl,?_⟩
 have H:=H.more H';clear H';simp only[Dl]at H
 refine Fb O (AO (A8 (AP (Dz O (Eb O underlying262 (xH ?_))))))
 refine EO (fun z f W=>∃(i:Nat) (S E:IL),i≤l.length∧z=l.length-i∧Rn.Ok S E n (fun b=>∃p∈l.take i,p.1≤b∧b<p.1+p.2)∧f 6=Y8 p∧f 12= .slice A l.length c∧f 13= .int .i64 l.length∧f 14= .int .i64 i∧Heap w [] (RI p bS bE S E n) W) l.length ⟨0,[],[],Y,rfl,(Rn.Ok.nil n).congr (fun b=>by simp),rfl,rfl,rfl,rfl,H⟩ ?_
 clear H
 rintro z f W ⟨i,S,E,hi,rfl,hO,f6,f12,f13,f14,H⟩
 by_cases hil:i<l.length
 ·obtain⟨q,hq⟩:∃q,l[i]? =some q:=⟨_,Ba hil⟩
  obtain⟨b,o,rfl,_,hrd⟩:=hS Y
  have hr:=hrd i q hq
  have hb:=hk.bd q (BP hq)
  have hf:∀b,q.1≤b→b<q.1+q.2→¬∃p∈l.take i,p.1≤b∧b<p.1+p.2:=fun b h1 h2 ⟨x,hx,h3,h4⟩=>by
   obtain⟨j,hj,e⟩:=Gg.1 hx
   rw[Ed]at hj
   obtain⟨g1,g2⟩:=BK.1 hq
   have:=Hf.1 hk.ord j i Y g1 Y
   rw[Rj]at e
   rw[e,g2]at this
   omega
  have heq:∀b,(∃p∈l.take i,p.1≤b∧b<p.1+p.2)∨q.1≤b∧b<q.1+q.2↔∃p∈l.take (i+1),p.1≤b∧b<p.1+p.2:=fun b=>by
   rw[←KT hq]
   constructor
   ·rintro(⟨p,hp,h⟩|h)
    ·exact⟨p,CO _ hp,h⟩
    ·exact⟨q,J,h⟩
   ·rintro⟨p,hp,h⟩
    rcases Ci.1 hp with hp|hp
    ·exact .inl ⟨p,hp,h⟩
    ·rw[Bz.1 hp]at h;exact .inr h
  obtain⟨f,rfl⟩:=Jj f6 f12 f13 f14
  clear f6 f12 f13 f14
  refine aB ?_
  refine AV (OO (i:=i) O O Y Y underlying262 Yk) (AV (ZA (enc:=fun v:Value=>v) (zs:=[.int .i64 q.1,.int .i64 q.2]) (hr.later H.only J) O O avR Yk) (Ei H O aat fun p8 _ H=>Va H 0 O O O O O O O Yk ?_))
  clear H;refine axS fun _ H=>?_
  refine AO (AP (Bg O (BI O ad3 (fV ?_))))
  refine BI O Xv (fV ?_)
  refine s_call O (ame H.drop.ents hO Y q.1 q.2 Y hf) (aph O) ?_
  rintro e W1 ⟨rfl,S2,E2,hO2,H'⟩
  refine⟨_,rfl,?_⟩
  have H:=H.drop.step (A:=RI p bS bE S E n) (L:=[]) H' (fun i hi=>hi);clear H';simp only[Dl]at H
  refine wV ?_
  exact⟨_,_,Y,rfl,i+1,S2,E2,Y,rfl,hO2.congr heq,rfl,rfl,rfl,rfl,H⟩
 ·obtain rfl:i=l.length:=Y
  rw[F9]at hO
  obtain⟨f,rfl⟩:=Jj f6 f12 f13 f14
  clear f6 f12 f13 f14
  refine oh ?_
  refine Bg O (qZ ?_)
  exact⟨p,bS,bE,S,E,rfl,hO.congr fun b=>(hk.cov b).symm,H⟩
end
end
section
section
structure Dv (d:Nv.D) (m:Nat):Prop where
 I:Nv.Inv d m
 L:Nv.Live d
 U:Ob.Qv d.cache
theorem Dv.len{d:Nv.D}{m:Nat}(h:Dv d m):d.cache.length=8*m:=h.I.ok.hc
def UU(d:Nv.D)(j:Nat):Bool:=d.dirty.getD j false
theorem aot{c:List Int}(h:Ob.Qv c)(a:Nat){v:Int}(hv:0≤v∧v≤18446744073709551615):Ob.Qv (c.set a v):=fun x hx=>by
 rcases DY hx with h1|rfl
 ·exact h x h1
 ·exact hv
theorem an5{c:List Int}{a:Nat}(ha:a<c.length)(v:Int)(x:Int):Nv.get (c.set a v) x=if x=a then v else Nv.get c x:=by
 unfold Nv.get
 rw[Hz]
 by_cases h:0≤x∧x<(c.length:Int)
 ·rw[if_pos h,if_pos h,BN,EJ,BN]
  by_cases e:x=a
  ·subst e
   rw[if_pos Y,if_pos Y,if_pos rfl];rfl
  ·rw[if_neg Y,if_neg e]
 ·rw[if_neg h,if_neg h,if_neg Y]
structure ZB (d d':Nv.D) (m a:Nat) (v:Int):Prop where
 D:Dv d' m
 c:d'.cache=d.cache.set a v
 k:∀j,j≠a/8→UU d' j=UU d j
theorem Dv.store{d:Nv.D}{m:Nat}(h:Dv d m){a:Nat}(ha:a<8*m){v:Int}(hv:0≤v∧v≤18446744073709551615):(Nv.store d m a v).2=0∧ZB d (Nv.store d m a v).1 m a v:=by
 have e:=Nv.WV h.L ha v
 have hI:=h.I.store (a:Int) v
 rw[e]at hI⊢
 refine⟨rfl,⟨hI,(h.L.stepped).put a v,aot h.U a hv⟩,rfl,fun j hj=>?_⟩
 show(d.dirty.set (a/8) true).getD j false=d.dirty.getD j false
 rw[BN,EJ,if_neg (fun e=>hj e.symm),←BN]
structure Per (d d':Nv.D) (m a n:Nat):Prop where
 D:Dv d' m
 c:d'.cache=d.cache
 k:∀j,UU d j=false→UU d' j=false
 q:∀x,a≤x→x<a+n→UU d' (x/8)=false
theorem Dv.persist{d:Nv.D}{m:Nat}(h:Dv d m){a n:Nat}(ha:a+n≤8*m):(Nv.persist d m a n).2=0∧Per d (Nv.persist d m a n).1 m a n:=by
 obtain⟨h1,h2,h3⟩:=Nv.Yc h.L ha
 refine⟨h1,⟨h.I.persist _ _,h2,by rw[h3];exact h.U⟩,h3,fun j hj=>?_,fun x hx1 hx2=>(Nv.Sr h.I h1 x Y Y).2⟩
 have hl:Nv.Ln d j (fun x=>d.cache.getD x 0):=⟨hj,fun _ _=>rfl⟩
 exact(hl.persist h.I _ _).cl
end
end
section
section
open Go.RowKit
def Rq(a:Int):Prop:= -9223372036854775808≤a∧a≤9223372036854775807
theorem au2:laidOutB prog=true:=by kernel_rfl
theorem asb:Go.Maps.Keyed prog 333:=Go.Maps.Keyed.of_law (deep_law_laid au2 (m:=2) Y (of_decide_eq_true Aw) Aw (by rw[underlying333]))
def kE:KC prog 333 (Int×Int):=
 ⟨fun a=> .agg [.int .i64 a.1,.int .i64 a.2].toArray,fun a=>Rq a.1∧Rq a.2,asb,fun a ha=>Za Aw Aw underlying3 underlying3 Aw Aw Aw Aw ⟨prog.types.size-1,by kernel_rfl⟩ (wf_i64 ha.1) (wf_i64 ha.2),fun a b=>afJ⟩
def kT:KC prog 3 Int:=kI prog 3 underlying3
def QH(l:List Int):List (Int×Bool):=l.map fun a=>(a,true)
theorem ai9{l:List Int}{a:Int}(h:a∈l):FZ (QH l) a=some true:=by
 cases hm:FZ (QH l) a with
 |none=>
  have:=(IE _ _).1 hm (a,true) (DN.2 ⟨a,h,rfl⟩)
  exact absurd rfl this
 |some v=>
  have:∀(l:List Int),FZ (QH l) a=some v→v=true:=fun l=>by
   induction l with
   |nil=>intro h;cases h
   |cons x l ih=>
    intro h
    unfold QH at h
    rw[DJ,FZ]at h
    split at h
    ·injection h with h;exact h.symm
    ·exact ih h
  rw[this l hm]
theorem ahH{l:List Int}{a:Int}(h:a∉l):FZ (QH l) a=none:=(IE _ _).2 fun p hp e=>by
 obtain⟨x,hx,rfl⟩:=DN.1 hp
 exact h (by rw[←e];exact hx)
theorem aj1{l:List Int}{a:Int}(h:a∉l):JX (QH l) a true=QH (l++ [a]):=by
 rw[(Ur (QH l) a (fun p hp e=>by obtain⟨x,hx,rfl⟩:=DN.1 hp;exact h (by rw[←e];exact hx))).2.1 true]
 simp[QH]
theorem Dj.off{A B:List FU}{w W:World}(h:Dj [grp A,grp B] w)(hO:Only (ids B) w W):Dj A W:=by
 have h1:=(Heap.start h).ents
 have hnd:=h.2
 rw[Ep,Ep]at hnd
 obtain⟨_,_,dis⟩:=C9.1 hnd
 have hA:Dj A w:=h.1 (grp A) J
 refine⟨fun E hE=>E.loc w W (fun i hi=>?_) (hA.1 E hE),hA.2⟩
 have hm:i∈(grp A).ids:=Nl.2 ⟨E,hE,hi⟩
 refine hO.block i (E.lt w (hA.1 E hE) i hi) fun hf=>?_
 exact dis i hm i (CO _ hf) rfl
theorem Dj.snd{A B:List FU}{w:World}(h:Dj [grp A,grp B] w):Dj B w:=h.1 (grp B) J
def Ql(g:Geo)(n:Nat)(A:Option Addr)(k c p bs bb:Nat)(OA:Option Addr)(oc:Nat)(s:Tr.S):List FU:=
 [blk p [ptr g.p,.int .i64 n,.slice A k c,.map (some bs),.slice OA s.op.length oc,.map (some bb)] 330,mp kT Value.bool bs (QH s.seen),Ec 1 (.slice OA s.op.length oc) s.op.length (s.op.map (Value.int .i64)) 3,mp kE (Value.int .i64) bb s.bad]
section
variable{g:Geo}{d:Nv.D}{n k c p bs bb oc:Nat}{A OA:Option Addr}{hs:List Ob.H3}{s:Tr.S}{w:World}
theorem aiI(hE:Dj [grp (Dy g d),grp (Ql g n A k c p bs bb OA oc s)] w)(hw:Ob.Qv d.cache)(hl:d.cache.length≤1000000000)(hS:KG w (ids (Ql g n A k c p bs bb OA oc s)) A hs)(hk:hs.length=k)(hk2:k≤1000000)(hW:hsW hs)(hn:n≤1000000)(ho:s.op.length≤1000000)(e1 e2 a:Int)(he1:Rq e1)(he2:Rq e2)(ha:Rq a):
 Calls prog 272 [ptr p,.agg [.int .i64 e1,.int .i64 e2].toArray,.int .i64 a].toArray w fun e w'=>e= .returned (.int .i64 (Tr.code (Ob.pl n d.cache hs) s a))∧∃OA' oc',Heap w (ids (Ql g n A k c p bs bb OA oc s)) (Ql g n A k c p bs bb OA' oc' (Tr.reach (Ob.pl n d.cache hs) s (e1,e2) a)) w':=by
 have awK:=fun{W:World} (h:Only (ids (Ql g n A k c p bs bb OA oc s)) w W)=>hE.off h
 have hS2:=fun{W:World} (h:Only (ids (Ql g n A k c p bs bb OA oc s)) w W)=>(hS.later h (fun _ h=>h)).mono (G:=[]) J
 have H:=Heap.start hE.snd
 generalize hI:ids (Ql g n A k c p bs bb OA oc s)=I at*
 have gda:kT.Gd a:=ha
 unfold Tr.code Tr.reach
 by_cases h0:a=0
 ·rw[if_pos (.inl h0),if_pos (.inl h0)]
  unfold Ql at H
  refine BO 59 func272 O (AP (D9 H O O fun p4 _ H=>lV ?_))
  refine AV (D7 O O Y) (BX O (Df 11 O O (Df 11 O O (Df 11 O O (Df 11 O O (Df 11 O O (Df 11 O O (EZ O O (gG ?_)))))))))
  exact⟨rfl,OA,oc,H.drop⟩
 ·by_cases hm:a∈s.seen
  ·rw[if_pos (.inr hm),if_pos (.inr hm)]
   have hg:=ai9 hm
   unfold Ql at H
   refine BO 59 func272 O (AP (D9 H O O fun p4 _ H=>pY ?_))
   refine Bo 11 O (Rx H 2 O O O (gda) (hg) underlying327 (IY Nb) O) (DW O O (gG ?_))
   exact⟨rfl,OA,oc,H.drop⟩
  ·have hno:¬(a=0∨a∈s.seen):=fun h=>h.elim h0 hm
   rw[if_neg hno,if_neg hno]
   have hg:=ahH hm
   have hP:=fun{W:World} (h:Only I w W)=>afA (awK h) hw hl A k c hs (hS2 h) hk hk2 hW n hn a ha
   generalize Ob.pl n d.cache hs a=b at*
   unfold Ql at H
   refine BO 59 func272 O (AP (D9 H O O fun p4 _ H=>pY ?_))
   refine Bo 11 O (akm H 2 O O O (gda) (hg) underlying327 (IY Nb)) (gQ ?_)
   refine A8 (A8 ?_)
   refine Gl (fun f W=>f 0=ptr p∧f 2= .int .i64 a∧f 4=ptr p4∧f 6= .int .i64 0∧f 8= .bool b∧Heap w I [blk p4 [.int .i64 e1,.int .i64 e2] 333,blk p [ptr g.p,.int .i64 n,.slice A k c,.map (some bs),.slice OA s.op.length oc,.map (some bb)] 330,mp kT Value.bool bs (QH s.seen),Ec 1 (.slice OA s.op.length oc) s.op.length (s.op.map (Value.int .i64)) 3,mp kE (Value.int .i64) bb s.bad] W) ?_ ?_
   ·refine JQ (A:=[_]) mixed H [1] O ?_;replace H:=H.drew
    refine uT ?_
    refine CZ 2 O O O (fun _ hS=>Cm O ahW) (H.BQ [1] O O) (CZ 3 O O O (fun _ hS=>DR hS 0 O O O J7) (H.BQ [1] O O) (uS ?_))
    refine CZ 6 O O O (fun _ hS=>Cm O aoX) (H.BQ [1] O O) (CZ 7 O O O (fun _ hS=>JY (vs:=[.int .i64 n]) hS 0 O O O O Ic He) (H.BQ [1] O O) (uQ ?_))
    refine CZ 10 O O O (fun _ hS=>Cm O aoG) (H.BQ [1] O O) (CZ 11 O O O (fun _ hS=>DR hS 0 O O O WB) (H.BQ [1] O O) (CZ 12 O O O (fun _ hS=>Cc (v:= .int _ _) O) (H.BQ [1] O O) ?_))
    refine Et 13 17 ?_ ?_
    ·refine CB O (s_call O (hP H.only) (ak4 O) ?_)
     rintro e W1 ⟨⟨P0,D0,rfl,_⟩,H'⟩
     refine⟨_,rfl,?_⟩
     have H:=H.same H';clear H'
     refine xu ?_
     refine CZ 14 O O O (fun _ hS=>Cc (v:= .tuple _) O) (H.BQ [1] O O) (CZ 15 O O O (fun _ hS=>CQ (v:= .agg _) O O) (H.BQ [1] O O) (CZ 16 O O O (fun _ hS=>CQ (v:= .bool _) O O) (H.BQ [1] O O) (BD 17 O (Ei H O G8 fun p7 _ H=>sF ?_))))
     refine BD 18 O (iH ?_)
     clear H;refine axS fun _ H=>?_
     refine sF ?_
     refine CZ 19 O O O (fun _ hS=>DK (v:= .bool _) O) (H.BQ [2] O O) (CU (Dp ?_))
     exact⟨rfl,rfl,rfl,rfl,rfl,H.drop⟩
    ·refine CB O (Ei H O G8 fun p7 _ H=>sF ?_)
     refine BD 13 O (s_call O (hP H.only) (ak4 O) ?_)
     rintro e W1 ⟨⟨P0,D0,rfl,_⟩,H'⟩
     refine⟨_,rfl,?_⟩
     have H:=H.same H';clear H'
     refine sF ?_
     refine CZ 14 O O O (fun _ hS=>Cc (v:= .tuple _) O) (H.BQ [2] O O) (CZ 15 O O O (fun _ hS=>CQ (v:= .agg _) O O) (H.BQ [2] O O) (CZ 16 O O O (fun _ hS=>CQ (v:= .bool _) O O) (H.BQ [2] O O) (BD 18 O (iH ?_))))
     clear H;refine axS fun _ H=>?_
     refine sF ?_
     refine CZ 19 O O O (fun _ hS=>DK (v:= .bool _) O) (H.BQ [2] O O) (CU (Dp ?_))
     exact⟨rfl,rfl,rfl,rfl,rfl,H.drop⟩
   clear H
   rintro f W ⟨f0,f2,f4,f6,f8,H⟩
   obtain⟨f,rfl⟩:=OJ f0 f2 f4 f6 f8
   clear f0 f2 f4 f6 f8
   cases b with
   |true=>
    rw[if_pos rfl,if_pos rfl]
    refine AX (AP (BX O (eU ?_)))
    refine dL ?_
    refine BI O aak (BG H 1 O O O aif (AQ O (QO (q:=true) H 2 O O O O O (gda) underlying327 ?_)))
    clear H;refine axS fun _ H=>?_
    refine AO (AP (uo ?_))
    refine BI O Qr (BG H 1 O O O KQ (AQ O (RN (enc:=(Value.int .i64)) H 3 O O O O O O O Y underlying22 JH O ?_)))
    clear H;intro _ An cn _ H;simp only[Bv,Nat.reduceAdd]at H
    refine BU O (BI O Qr (Ik (u:= .slice _ _ _) H 1 O O O O O O OE ?_))
    clear H;refine axS fun _ H=>?_
    refine AO (uP ?_)
    have hle:(s.op++ [a]).length=s.op.length+1:=by simp
    rw[aj1 hm,←hle]at H
    exact⟨rfl,_,_,H.drop⟩
   |false=>
    rw[if_neg J,if_neg J]
    refine AX (AP (BX O (AV (Ib O) (AO (EF O (A8 (XT 6 mixed Aw H O O (ay ?_))))))))
    refine BZ (fun _ H=>Cm O adB) (BZ (fun _ H=>DR H 1 O O O aky) (BZ (fun _ H=>J5 H 0 O O O atf atO) (bK ?_)))
    refine Iy ?_
    clear H;intro _ H
    refine QO H 4 O O O O O ((show kE.Gd (e1,e2)from⟨he1,he2⟩)) underlying328 ?_
    clear H;refine axS fun _ H=>?_
    refine AO (oM ?_)
    refine BM (Dx (aK ?_))
    exact⟨rfl,OA,oc,H.drop⟩
end
end
end
section
section
open Go.RowKit
theorem Heap.RS{w0 W:World}{F:List Nat}{L:List FU}{E:FU}(H:Heap w0 F L W)(k:Nat)(hk:L[k]? =some E):Dj [E] W:=Heap.part (A:=[E]) (H.pick k hk)
theorem Dj.on{A B L:List FU}{w W:World}(h:Dj [grp A,grp B] w)(H:Heap w (ids B) L W):Dj (grp A::L) W:=by
 have hA:=h.off H.only
 have hnd:=h.2
 rw[Ep,Ep]at hnd
 obtain⟨hn1,_,dis⟩:=C9.1 hnd
 refine⟨fun E hE=>?_,?_⟩
 ·rcases Dh.1 hE with rfl|h1
  ·exact hA
  ·exact H.ok E h1
 ·rw[Ep,C9]
  refine⟨hn1,H.nd,fun i hi j hj e=>?_⟩
  subst e
  rcases H.own i hj with h1|h1
  ·exact dis i hi i (CO _ h1) rfl
  ·have:=(grp A).lt w (h.1 (grp A) J) i hi
   omega
theorem Dj.two{A B:FU}{L:List FU}{W:World}(h:Dj (A::L) W)(k:Nat)(hk:L[k]? =some B):Dj [A,B] W:=by
 have h1:=Heap.start h
 have h2:=(h1.pick (k+1) (by simpa using hk)).pick 1 rfl
 exact Heap.part (A:=[A,B]) h2
theorem KG.on{w W:World}{I K:List Nat}{L:List FU}{A:Option Addr}{hs:List Ob.H3}(h:KG w K A hs)(H:Heap w I L W)(hIK:∀i∈I,i∈K):KG W (K++ids L) A hs:=fun h0=>by
 obtain⟨b,o,e,hb,hr⟩:=h h0
 have hlt:b<w.heap.size:=by
  obtain⟨x,hx⟩:∃x,hs[0]? =some x:=⟨_,Ba Y⟩
  exact cell_lt (hr 0 x hx 0 _ rfl)
 refine⟨b,o,e,fun hm=>?_,fun i x hi=>(hr i x hi).later H.only (fun hm=>hb (hIK b hm))⟩
 rcases Ci.1 hm with h1|h1
 ·exact hb h1
 ·rcases H.own b h1 with h2|h2
  ·exact hb (hIK b h2)
  ·omega
theorem afX{n:Nat}{c:List Int}{hs:List Ob.H3}{s:Tr.S}(h:Tr.Ok (Ob.pl n c hs) s):s.op.length≤512*n∧s.seen.length≤512*n:=by
 have hp:∀x∈s.seen,0≤x∧x<((512*n:Nat):Int):=fun x hx=>by
  have:=Ob.OW (h.pl x hx);omega
 exact⟨Tr.PU _ _ h.ahK (fun x hx=>hp x (h.sub x hx)),Tr.PU _ _ h.nd hp⟩
theorem avE(g:Geo)(n:Nat)(A:Option Addr)(k c:Nat)(w:World):
 Calls prog 237 [ptr g.p,.agg [.int .i64 n].toArray,.slice A k c].toArray w fun e w'=>∃p bs bb,e= .returned (ptr p)∧Heap w [] (Ql g n A k c p bs bb none 0 Tr.s0) w':=by
 have H:=Heap.nil w
 refine BO 14 func237 O (AP (D9 H O O fun p4 _ H=>Fb O (AO (AP (Bg O (uG ?_))))))
 refine Dz O (aj2 kT Value.bool H O ?_)
 intro b1 _ H';clear H;have H:=H';clear H'
 refine aj2 kE (Value.int .i64) H O ?_
 intro b2 _ H';clear H;have H:=H';clear H'
 refine AV (FI (ZJ _ _ _ _ _ _ _) O) (D9 H O O fun p13 _ H=>sQ ?_)
 replace H:=H.Kr 1 3
 exact⟨p13,b1,b2,rfl,Heap.BQ H [1,3,0,2] rfl rfl⟩
section
variable{g:Geo}{d:Nv.D}{n k c p bs bb oc:Nat}{A OA:Option Addr}{hs:List Ob.H3}{s:Tr.S}{w:World}{K:List Nat}
theorem arZ(hE:Dj [grp (Dy g d),grp (Ql g n A k c p bs bb OA oc s)] w)(hw:Ob.Qv d.cache)(hl:d.cache.length≤1000000000)(hS:KG w (ids (Ql g n A k c p bs bb OA oc s)) A hs)(hk:hs.length=k)(hk2:k≤1000000)(hW:hsW hs)(hn:n≤1900)(hok:Tr.Ok (Ob.pl n d.cache hs) s)(a:Int)(ha:Rq a):
 Calls prog 238 [ptr p,.int .i64 a].toArray w fun e w'=>e= .returned (.int .i64 (Tr.code (Ob.pl n d.cache hs) s a))∧∃OA' oc',Heap w (ids (Ql g n A k c p bs bb OA oc s)) (Ql g n A k c p bs bb OA' oc' (Tr.reach (Ob.pl n d.cache hs) s (-1,0) a)) w':=by
 have hln:=afX hok
 have hR:=aiI hE hw hl hS hk hk2 hW Y Y (-1) 0 a ⟨Y,Y⟩ ⟨Y,Y⟩ ha
 have H:=IJ hE.snd
 generalize hI:ids (Ql g n A k c p bs bb OA oc s)=I at*
 refine BO 9 func238 O (oM ?_)
 refine AP (Bg O (AV (FI (aoL _) O) (AQ O (s_call O (hR) (aqs O) ?_))))
 rintro e W1 ⟨rfl,OA',oc',H'⟩
 refine⟨_,rfl,?_⟩
 rw[←hI]at H';have H:=H.CX 0 rfl H';clear H';simp only[Bv]at H
 refine eu ?_
 exact⟨rfl,OA',oc',Hr H⟩
theorem anL(hE:Dj (Ql g n A k c p bs bb OA oc s) w)(h0:s.op=[]):
 Calls prog 273 [ptr p].toArray w fun e w'=>e= .returned (.bool false)∧Only [] w w':=by
 have HR:=Heap.start hE
 have H:=Heap.nil w
 unfold Ql at HR
 rw[h0,Iu]at HR
 refine BO 63 func273 O (uV ?_)
 refine jW ?_
 refine BI O Qr (BG (HR.same H.only) 0 O O O KQ (Eb O underlying22 (wO ?_)))
 refine mX ?_
 exact⟨rfl,H.only⟩
theorem aqY(hE:Dj [grp (Dy g d),grp (Ql g n A k c p bs bb OA oc s)] w)(hw:Ob.Qv d.cache)(hl:d.cache.length≤1000000000)(hS:KG w K A hs)(hIK:∀i∈ids (Ql g n A k c p bs bb OA oc s),i∈K)(hk:hs.length=k)(hk2:k≤1000000)(hW:hsW hs)(hn:n≤1900)(hok:Tr.Ok (Ob.pl n d.cache hs) s)(h0:s.op≠[]):
 Calls prog 273 [ptr p].toArray w fun e w'=>e= .returned (.bool true)∧∃OA' oc',Heap w (ids (Ql g n A k c p bs bb OA oc s)) (Ql g n A k c p bs bb OA' oc' (Tr.step (Ob.pl n d.cache hs) (Ob.ptrs d.cache) s)) w':=by
 have hDv:=fun{L:List FU} {W:World} (H:Heap w (ids (Ql g n A k c p bs bb OA oc s)) L W)=>hE.on H
 have hS2:=fun{L:List FU} {W:World} (H:Heap w (ids (Ql g n A k c p bs bb OA oc s)) L W)=>hS.on H hIK
 have hDO:=fun{W:World} (h:Only (ids (Ql g n A k c p bs bb OA oc s)) w W)=>hE.off h
 have H:=Heap.start hE.snd
 have hln:=afX hok
 generalize hI:ids (Ql g n A k c p bs bb OA oc s)=I at*
 have hpos:=Hg.2 h0
 obtain⟨y,hy⟩:∃y,s.op[s.op.length-1]? =some y:=⟨_,Ba Y⟩
 have hyt:Tr.top s=y:=by unfold Tr.top;rw[BN,hy];rfl
 have hyp:=Ob.OW (hok.pl y (hok.sub y (BP hy)))
 have hPt:=fun{W:World} (h:Only I w W)=>agJ (hDO h) hw hl y hyp.2.2
 have hpb:=Ob.ahV hw y
 unfold Tr.step
 rw[hyt]
 generalize hPL:Ob.ptrs d.cache y=l at*
 have hll:l.length≤63:=by
  rw[←hPL];unfold Ob.ptrs;rw[Ob.Ub];have:=Ob.QS hw y;omega
 unfold Ql at H
 cases OA with
 |none=>
  exfalso
  obtain⟨q,hq⟩:=H.JO 2 rfl Y
  cases hq
 |some oa=>
 obtain⟨q,hq⟩:=H.JO 2 rfl Y
 injection hq with hq
 subst hq
 have hcap:=Pq H 2 rfl
 refine BO 63 func273 O (uV ?_)
 refine jW ?_
 refine BI O Qr (BG H 0 O O O KQ (Eb O underlying22 (kC ?_)))
 refine A8 (k_q mixed Aw H (lg ?_))
 refine lg ?_
 refine iL ?_
 refine BZ (fun _ H=>H8 (i:=(s.op.length-1)) O O Y Y underlying22 Ji) (BZ (fun _ H=>XJ H 2 O O hy FM) (BZ (fun _ H=>DK (v:= .int _ _) O) (Iy ?_)))
 clear H;intro _ H
 refine AX (A8 (XT 14 mixed Aw H O O (dW ?_)))
 refine lg ?_
 refine lg ?_
 refine iL ?_
 refine BZ (fun _ H=>P6 (j:=s.op.length-1) O O Y Y underlying22 Ji) (BZ (fun _ H=>DT O) (BZ (fun _ H=>Cm O Qr) (Iy ?_)))
 clear H;intro _ H
 refine nH ?_
 clear H;refine axS fun _ H=>?_
 refine AO (A8 ?_)
 replace H:=H.Ro (m:=s.op.length-1) 2 rfl Y
 rw[GY,←Kw]at H
 have hpl:(s.op.take (s.op.length-1)).length=s.op.length-1:=by rw[Ed];omega
 replace H:Heap w I [grp (Ql g n A k c p bs bb (some ⟨q,0,none⟩) oc (Tr.pop s))] _:=Io (by
  unfold Ql Tr.pop
  simp only[hpl]
  exact H)
 refine jw ?_
 refine BI O ahW (BG (Heap.start (H.Bl 0 O)) 0 O O O J7 (AQ O (s_call O (hPt H.only) (al4 O) ?_)))
 rintro e W1 ⟨QA,qc,rfl,H'⟩
 refine⟨_,rfl,?_⟩
 have H:=H.more H';clear H';simp only[Bv]at H
 refine Dt O (nM ?_)
 refine EM O (AY O (AO (sS ?_)))
 refine xH ?_
 refine EO (fun z f W=>∃(i:Nat) (OA:Option Addr) (oc:Nat),i≤l.length∧z=l.length-i∧f 0=ptr p∧f 3= .int .i64 y∧f 49= .slice QA l.length qc∧f 50= .int .i64 l.length∧f 51= .int .i64 i∧Heap w I [Ec 1 (.slice QA l.length qc) l.length (l.map (Value.int .i64)) 3,grp (Ql g n A k c p bs bb OA oc (Tr.along (Ob.pl n d.cache hs) (Tr.pop s) y l i))] W) l.length ⟨0,_,oc,Y,rfl,rfl,rfl,rfl,rfl,rfl,H⟩ ?_
 clear H
 rintro z f W ⟨i,OA,oc2,hi,rfl,f0,f3,f49,f50,f51,H⟩
 obtain⟨f,rfl⟩:=OJ f0 f3 f49 f50 f51
 clear f0 f3 f49 f50 f51
 have hok2:=hok.pop.along y l i
 by_cases hlt:i<l.length
 ·obtain⟨x,hx⟩:∃x,l[i]? =some x:=⟨_,Ba Y⟩
  have hxb:=hpb x (BP hx)
  have hxd:l.getD i 0=x:=by rw[BN,hx];rfl
  have axL:=afX hok2
  obtain⟨r,rfl⟩:=H.JO 0 rfl Y
  have hR:=fun{W:World} (H:Heap w I [Ec 1 (.slice (some ⟨r,0,none⟩) l.length qc) l.length (l.map (Value.int .i64)) 3,grp (Ql g n A k c p bs bb OA oc2 (Tr.along (Ob.pl n d.cache hs) (Tr.pop s) y l i))] W)=>aiI ((hDv H).two 1 rfl) hw hl ((hS2 H).mono (fun j hj=>by rw[Ep,Ep];exact Du _ (Du _ (CO _ hj)))) hk hk2 hW Y Y y i x ⟨Y,Y⟩ ⟨Y,Y⟩ ⟨Y,Y⟩
  refine aB ?_
  refine AQ O (AV (H8 O O O Y underlying22 Ji) (AV (XJ H 0 O O hx FM) (kG ?_)))
  refine DF (Bg O (AQ O (AQ O (AV (FI (aj8 _ _) O) (AQ O (s_call O (hR H) (aqs O) ?_))))))
  rintro e W1 ⟨rfl,OA',oc',H'⟩
  refine⟨_,rfl,?_⟩
  have H:=H.CX 1 rfl H';clear H';simp only[Bv]at H
  refine AZ (aS ?_)
  refine⟨_,_,?_,rfl,i+1,OA',oc',Y,rfl,rfl,rfl,rfl,rfl,rfl,?_⟩
  ·omega
  ·rw[Tr.along,hxd];exact H
 ·obtain rfl:i=l.length:=Y
  refine oh ?_
  refine iP ?_
  exact⟨rfl,OA,oc2,Hr H.drop⟩
end
end
end
section
section
open Go.RowKit
section
variable{g:Geo}{d:Nv.D}{n k c p bs bb oc:Nat}{A OA:Option Addr}{hs:List Ob.H3}{s:Tr.S}{w:World}{K:List Nat}
theorem atA(hE:Dj [grp (Dy g d),grp (Ql g n A k c p bs bb OA oc s)] w)(hw:Ob.Qv d.cache)(hl:d.cache.length≤1000000000)(hS:KG w K A hs)(hIK:∀i∈ids (Ql g n A k c p bs bb OA oc s),i∈K)(hk:hs.length=k)(hk2:k≤1000000)(hW:hsW hs)(hn:n≤1900)(hok:Tr.Ok (Ob.pl n d.cache hs) s)(hlen:s.seen.length=s.op.length+0):
 Calls prog 239 [ptr p].toArray w fun e w'=>∃(N:Nat) (OA':Option Addr) (oc':Nat),(∀j,j<N→(Tr.steps (Ob.pl n d.cache hs) (Ob.ptrs d.cache) s j).op≠[])∧(Tr.steps (Ob.pl n d.cache hs) (Ob.ptrs d.cache) s N).op=[]∧e= .returned (.int .i64 (if(Tr.steps (Ob.pl n d.cache hs) (Ob.ptrs d.cache) s N).bad=[]then 0 else 22))∧Heap w (ids (Ql g n A k c p bs bb OA oc s)) (Ql g n A k c p bs bb OA' oc' (Tr.steps (Ob.pl n d.cache hs) (Ob.ptrs d.cache) s N)) w':=by
 have hDv:=fun{L:List FU} {W:World} (H:Heap w (ids (Ql g n A k c p bs bb OA oc s)) L W)=>hE.on H
 have hS2:=fun{L:List FU} {W:World} (H:Heap w (ids (Ql g n A k c p bs bb OA oc s)) L W)=>hS.on H hIK
 have H:=IJ hE.snd
 generalize hI:ids (Ql g n A k c p bs bb OA oc s)=I at*
 refine BO 11 func239 O (oM ?_)
 refine A8 (E8 (EO (fun z f W=>∃(i:Nat) (OA:Option Addr) (oc:Nat),i≤512*n∧z=512*n-i∧(∀j,j<i→(Tr.steps (Ob.pl n d.cache hs) (Ob.ptrs d.cache) s j).op≠[])∧f 0=ptr p∧f 2= .int .i64 0∧Heap w I [grp (Ql g n A k c p bs bb OA oc (Tr.steps (Ob.pl n d.cache hs) (Ob.ptrs d.cache) s i))] W) (512*n) ⟨0,OA,oc,Y,rfl,Y,rfl,rfl,H⟩ ?_))
 clear H
 rintro z f W ⟨i,OA,oc2,hi,rfl,hj,f0,f2,H⟩
 obtain⟨f,rfl⟩:=LZ f0 f2
 clear f0 f2
 have ajq:=hok.steps (pt:=Ob.ptrs d.cache) i
 have axF:=Tr.acu (Ob.pl n d.cache hs) (Ob.ptrs d.cache) s hlen i hj
 have axM:=afX ajq
 generalize hs2:Tr.steps (Ob.pl n d.cache hs) (Ob.ptrs d.cache) s i=s2 at*
 by_cases h0:s2.op=[]
 ·have hSt:=fun{W:World} hE=>anL (g:=g) (n:=n) (k:=k) (c:=c) (p:=p) (bs:=bs) (bb:=bb) (oc:=oc2) (A:=A) (OA:=OA) (s:=s2) (w:=W) hE h0
  by_cases hb:s2.bad=[]
  ·have hbl:(s2.bad.length:Int)=0:=by rw[hb];rfl
   refine A8 (AP (Bg O (BL H O (hSt (H.Bl 0 O)) (aki O) fun W1 H=>AO (qx ?_))))
   refine AV (Jy O O Y) (dK ?_)
   refine uP ?_
   rw[←hs2]at H h0 hb
   exact⟨i,OA,oc2,hj,h0,by rw[if_pos hb],Hr H⟩
  ·have hbl:=Hg.2 hb
   refine A8 (AP (Bg O (BL H O (hSt (H.Bl 0 O)) (aki O) fun W1 H=>AO (qx ?_))))
   refine AV (Oz O O Y) (gG ?_)
   rw[←hs2]at H h0 hb
   exact⟨i,OA,oc2,hj,h0,by rw[if_neg hb],Hr H⟩
 ·have hpos:=Hg.2 h0
  have hSt:=fun{W:World} (H:Heap w I [grp (Ql g n A k c p bs bb OA oc2 s2)] W)=>aqY ((hDv H).two 0 rfl) hw hl (hS2 H) (fun j hj=>Du _ (by rw[Ep];exact CO _ hj)) hk hk2 hW hn ajq h0
  refine A8 (AP (Bg O (s_call O (hSt H) (aki O) ?_)))
  rintro e W1 ⟨rfl,OA',oc',H'⟩
  refine⟨_,rfl,?_⟩
  have H:=H.CX 0 rfl H';clear H';simp only[Bv]at H
  refine AO (EF O (Bj (AX (E8 (Bj (CS (Dk ?_)))))))
  refine⟨_,_,?_,rfl,i+1,OA',oc',Y,rfl,fun j hji=>?_,rfl,rfl,?_⟩
  ·omega
  ·by_cases e:j=i
   ·subst e;rw[hs2];exact h0
   ·exact hj j Y
  ·rw[Tr.steps,hs2];exact H
theorem asE(hE:Dj (Ql g n A k c p bs bb OA oc s) w)(hm:s.seen.length≤1000000):
 Calls prog 240 [ptr p].toArray w fun e w'=>∃(A':Option Addr) (c':Nat),e= .returned (.slice A' s.seen.length c')∧Heap w [] [Ec 1 (.slice A' s.seen.length c') s.seen.length ((srt s.seen).map (Value.int .i64)) 3] w':=by
 have HR:=Heap.start hE
 obtain⟨es,clock,M⟩:=hE.ag8 1 rfl
 have H:=Heap.nil w
 unfold Ql at HR
 have amq:(QH s.seen).map Prod.fst=s.seen:=by unfold QH;rw[Oq];exact aqu _
 refine BO 21 func240 O (AP (EM O (AO (AP (EM O (AO (jW ?_)))))))
 refine BI O aak (BG (HR.same H.only) 0 O O O aif (am3 M H O O underlying327 ?_))
 intro r _ H';clear H;have H:=H';clear H'
 refine AO (E8 ?_)
 replace H:=H.Kr 1 3
 refine EO (fun z f W=>∃(lb:List ((Int×Bool)×Bool)) (cur:Option (Int×Bool)) (OA:Option Addr) (co:Nat) (out:List Int),z=(mleft lb).length∧lb.map (·.1)=QH s.seen∧(out++(mleft lb).map Prod.fst).Perm s.seen∧f 3= .slice OA out.length co∧f 9=ptr r∧Heap w [] [Ec 1 (.slice OA out.length co) out.length (out.map (Value.int .i64)) 3,mri kT Value.bool es clock bs r lb cur] W) _ ⟨(QH s.seen).map fun p=>(p,true),none,none,0,[],rfl,ahh _,by rw[YV,amq];exact QB _,rfl,rfl,H⟩ ?_
 clear H
 rintro z f W ⟨lb,cur,OA,co,out,rfl,hlb,hpm,f3,f9,H⟩
 have hol:out.length≤1000000:=by have:=hpm.length_eq;simp at this;omega
 obtain⟨f,rfl⟩:=LZ f3 f9
 clear f3 f9
 by_cases hl:mleft lb=[]
 ·refine AP (ad6 M H 1 (hl) O O O (jR ?_))
  refine AO (A8 (eG ?_))
  refine A8 ?_
  rw[hl,Ef,Dl]at hpm
  have hlen:out.length=s.seen.length:=by have:=hpm.length_eq;simpa using this
  have hS:=fun{W:World} hE=>ap5 OA out.length co out 3 W hE Y
  refine DF (Dz O (s_call O (hS (H.RS 0 O)) (apD O) ?_))
  rintro e W1 ⟨rfl,H'⟩
  refine⟨_,rfl,?_⟩
  have H:=H.at 0 rfl H' (fun i hi=>by simpa [ids]using hi);clear H'
  refine AO (AP (Dz O (rW ?_)))
  rw[asy hpm]at H
  rw[hlen]at H
  exact⟨OA,co,by rw[hlen],(H:Heap w [] ([_]++ [_]) _).drops⟩
 ·refine AP (ag2 M H 1 (hl) O O O ?_)
  clear H;intro j q _ hq gq H;simp only[Bv,Nat.reduceAdd]at H
  refine jR ?_
  refine AO (A8 (EF O (Bj (AX (E8 (AP (AV (ak6 M H 1 O O) (CV O O (AY O (AO (DF (Dz O (AQ O ?_)))))))))))))
  refine jo ?_
  clear H;intro _ An cn _ H;simp only[Bv,Nat.reduceAdd]at H
  refine EM O (AZ (CS (Dk ?_)))
  have hfs:=aml hq
  have hml:=ab6 hq
  refine⟨_,_,?_,rfl,lb.set j (q,false),some q,An,cn,out++ [q.1],rfl,by rw[hfs];exact hlb,?_,by rw[Cj];rfl,rfl,by rw[Cj];exact H⟩
  ·omega
  ·have hp:=(OX lb j q hq).map Prod.fst
   rw[EK]
   exact(OI out hp.symm).trans hpm
theorem aja(hE:Dj (Dy g d) w)(hw:Ob.Qv d.cache)(hl:d.cache.length≤1000000000)(hS:KG w [] A hs)(hk:hs.length=k)(hk2:k≤1000000)(hW:hsW hs)(hn:n≤1900)(FA:Option Addr)(fn fc:Nat)(l:List Int)(hF:I5 (Value.int .i64) w [] FA l)(hfl:l.length=fn)(hfn:fn≤1000000)(hlb:∀a∈l,Rq a):
 Calls prog 174 [ptr g.p,.agg [.int .i64 n].toArray,.slice A k c,.slice FA fn fc].toArray w fun e w'=>∃(N:Nat) (s1:Tr.S),s1=Tr.Gp (Ob.pl n d.cache hs) Tr.s0 l l.length∧(∀j,j<N→(Tr.steps (Ob.pl n d.cache hs) (Ob.ptrs d.cache) s1 j).op≠[])∧(Tr.steps (Ob.pl n d.cache hs) (Ob.ptrs d.cache) s1 N).op=[]∧
  ((Tr.steps (Ob.pl n d.cache hs) (Ob.ptrs d.cache) s1 N).bad≠[]∧e= .returned (.tuple [.slice none 0 0,.int .i64 22].toArray)∧Only [] w w'∨
   (Tr.steps (Ob.pl n d.cache hs) (Ob.ptrs d.cache) s1 N).bad=[]∧∃A' c',e= .returned (.tuple [.slice A' (Tr.steps (Ob.pl n d.cache hs) (Ob.ptrs d.cache) s1 N).seen.length c',.int .i64 0].toArray)∧Heap w [] [Ec 1 (.slice A' (Tr.steps (Ob.pl n d.cache hs) (Ob.ptrs d.cache) s1 N).seen.length c') (Tr.steps (Ob.pl n d.cache hs) (Ob.ptrs d.cache) s1 N).seen.length ((srt (Tr.steps (Ob.pl n d.cache hs) (Ob.ptrs d.cache) s1 N).seen).map (Value.int .i64)) 3] w'):=by
 have HD:=IJ hE
 have H:=Heap.nil w
 refine BO 43 func174 O (AP (D9 H O O fun p5 _ H=>EM O (sZ ?_)))
 refine uG ?_
 refine Dz O (s_call O (avE g n A k c _) (asV O) ?_)
 rintro e W1 ⟨p,bs,bb,rfl,H'⟩
 refine⟨_,rfl,?_⟩
 have H:=H.more (A:=[grp _]) (Io H');clear H';simp only[Bv]at H
 refine Fb O (AO (oM ?_))
 refine sS ?_
 refine xH ?_
 replace H:=Heap.BQ H [0] rfl rfl
 refine EO (fun z f W=>∃(i:Nat) (OA:Option Addr) (oc:Nat) (q:Int),i≤fn∧z=fn-i∧(q=0∨(Tr.Gp (Ob.pl n d.cache hs) Tr.s0 l i).bad≠[])∧f 10=ptr p∧f 11= .int .i64 q∧f 20= .slice FA fn fc∧f 21= .int .i64 fn∧f 22= .int .i64 i∧Heap w [] [grp (Ql g n A k c p bs bb OA oc (Tr.Gp (Ob.pl n d.cache hs) Tr.s0 l i))] W) fn ⟨0,none,0,0,Y,rfl,.inl O,rfl,rfl,rfl,rfl,rfl,H⟩ ?_
 clear H
 rintro z f W ⟨i,OA,oc,q,hi,rfl,hq,f10,f11,f20,f21,f22,H⟩
 obtain⟨f,rfl⟩:=OJ f10 f11 f20 f21 f22
 clear f10 f11 f20 f21 f22
 have ajq:=(Tr.ok0 (Ob.pl n d.cache hs)).Gp l i
 have hDv:∀{s2:Tr.S} {OA:Option Addr} {oc:Nat} {W2:World},Heap w [] [grp (Ql g n A k c p bs bb OA oc s2)] W2→Dj [grp (Dy g d),grp (Ql g n A k c p bs bb OA oc s2)] W2:=fun{s2 OA oc W2} H=>by
  have h1:=Heap.more HD H
  exact⟨fun E hE=>by rcases Dh.1 hE with rfl|h2;exact h1.ok _ J;exact h1.ok _ (by simp at h2⊢;exact .inl h2),by
   have h2:=h1.nd
   rw[UJ,Ep,Ep]at h2
   rw[Ep,Ep]
   have h3:ids ([]:List FU)=[]:=rfl
   rw[h3,Dl]at h2⊢
   exact(OH.nodup_iff).1 h2⟩
 have hSv:∀{s2:Tr.S} {OA:Option Addr} {oc:Nat} {W2:World},Heap w [] [grp (Ql g n A k c p bs bb OA oc s2)] W2→KG W2 (ids (Ql g n A k c p bs bb OA oc s2)) A hs:=fun{s2 OA oc W2} H=>(hS.on H J).mono (fun j hj=>Du _ (by rw[Ep];exact CO _ hj))
 by_cases hlt:i<fn
 ·obtain⟨x,hx⟩:∃x,l[i]? =some x:=⟨_,Ba Y⟩
  have hxd:l.getD i 0=x:=by rw[BN,hx];rfl
  obtain⟨b,o,rfl,_,hrd⟩:=hF Y
  have cx:=hrd i x hx
  have hR:=fun{W:World} (H:Heap w [] [grp (Ql g n A k c p bs bb OA oc (Tr.Gp (Ob.pl n d.cache hs) Tr.s0 l i))] W)=>arZ (hDv H) hw hl (hSv H) hk hk2 hW hn ajq x (hlb x (BP hx))
  have hrs:Tr.Gp (Ob.pl n d.cache hs) Tr.s0 l (i+1)=Tr.reach (Ob.pl n d.cache hs) (Tr.Gp (Ob.pl n d.cache hs) Tr.s0 l i) (-1,0) x:=by rw[Tr.Gp,hxd]
  have hcb:=Tr.alc (Ob.pl n d.cache hs) (Tr.Gp (Ob.pl n d.cache hs) Tr.s0 l i) (-1,0) x
  have hbe:=Tr.aa6 (Ob.pl n d.cache hs) (Tr.Gp (Ob.pl n d.cache hs) Tr.s0 l i) (-1,0) x
  rw[←hrs]at hR hcb hbe
  generalize Tr.code (Ob.pl n d.cache hs) (Tr.Gp (Ob.pl n d.cache hs) Tr.s0 l i) x=cd at*
  by_cases hc0:cd=0
  ·subst hc0
   refine wB ?_
   rintro e W1 ⟨rfl,OA',oc',H'⟩
   refine⟨_,rfl,?_⟩
   have H:=H.CX 0 rfl H';clear H';simp only[Bv]at H
   refine wV ?_
   exact⟨_,_,Y,rfl,i+1,OA',oc',q,Y,rfl,hq.imp id (fun h h2=>h (hbe h2)),rfl,rfl,rfl,rfl,rfl,H⟩
  ·refine wB ?_
   rintro e W1 ⟨rfl,OA',oc',H'⟩
   refine⟨_,rfl,?_⟩
   have H:=H.CX 0 rfl H';clear H';simp only[Bv]at H
   refine xK ?_
   refine AV (Jr O O Y) (AO (EF O (DF (AQ O (AY O (AZ (aS ?_)))))))
   exact⟨_,_,Y,rfl,i+1,OA',oc',cd,Y,rfl,.inr (fun h2=>hc0 (hcb h2)),rfl,rfl,rfl,rfl,rfl,H⟩
 ·obtain rfl:i=l.length:=Y
  have hlen:=Tr.Zh (Ob.pl n d.cache hs) l l.length
  generalize hs1:Tr.Gp (Ob.pl n d.cache hs) Tr.s0 l l.length=s1 at*
  have hR:=fun{W:World} (H:Heap w [] [grp (Ql g n A k c p bs bb OA oc s1)] W)=>atA (hDv H) hw hl (hSv H) (fun _ h=>h) hk hk2 hW hn ajq hlen
  refine aU ?_
  refine AX (A8 (AP (Bg O (s_call O (hR H) (au9 O) ?_))))
  rintro e W1 ⟨N,OA',oc',hN1,hN2,rfl,H'⟩
  refine⟨_,rfl,?_⟩
  have H:=H.CX 0 rfl H';clear H';simp only[Bv]at H
  refine AY O (AO (A8 ?_))
  by_cases hb:(Tr.steps (Ob.pl n d.cache hs) (Ob.ptrs d.cache) s1 N).bad=[]
  ·have hb1:=Tr.aaN _ _ _ _ hb
   obtain rfl:q=0:=hq.elim id (fun h=>absurd hb1 h)
   have axJ:=afX (ajq.steps (pt:=Ob.ptrs d.cache) N)
   have hSe:=fun{W:World} hE=>asE (g:=g) (n:=n) (k:=k) (c:=c) (p:=p) (bs:=bs) (bb:=bb) (oc:=oc') (A:=A) (OA:=OA') (s:=Tr.steps (Ob.pl n d.cache hs) (Ob.ptrs d.cache) s1 N) (w:=W) hE Y
   rw[if_pos hb]
   refine DF (AQ O (AV (Dc O O Y) (BX O (Bo 37 O (Gm O) (Bo 37 O (Dc O O Y) (gQ ?_))))))
   refine AP (Bg O (s_call O (hSe (H.Bl 0 O)) (auf O) ?_))
   rintro e W1 ⟨A',c',rfl,H'⟩
   refine⟨_,rfl,?_⟩
   have H:=H.more H';clear H';simp only[Bv]at H
   refine EM O (xA ?_)
   refine Fh (v:= .slice _ _ _) (v2:= .int _ _) O O O ?_
   exact⟨N,s1,rfl,hN1,hN2,.inr ⟨hb,A',c',rfl,Heap.BQ H [0] rfl rfl⟩⟩
  ·rw[if_neg hb]
   refine DF (AQ O (AV (Jr O O Y) (BX O (Df 37 O O (Df 37 O O (EZ O O (oV ?_)))))))
   refine EM O (xA ?_)
   refine Dx (Fh (v:= .slice _ _ _) (v2:= .int _ _) O O O ?_)
   exact⟨N,s1,rfl,hN1,hN2,.inl ⟨hb,rfl,H.only⟩⟩
end
end
end
section
section
open Go.RowKit
section
variable{s:agT}{d:Nv.D}{m:Nat}{w:World}
end
end
end
section
section
open Go.RowKit
end
end
section
namespace Md
def IU(n:Int):Int:=if n<0 then-(n+1)else 512+512*(n/64)+8*(n%64)
theorem Qv.set{ws:List Int}(h:Ob.Qv ws)(i:Nat){v:Int}(hv:0≤v∧v≤18446744073709551615):Ob.Qv (ws.set i v):=fun x hx=>by
 rcases DY hx with h1|h1
 ·exact h x h1
 ·subst h1;exact hv
def hfl:Nat→List C1
 |0=> []
 |i+1=>hfl i++if i=0 then [C1.i .i64 0,C1.i .i64 0,C1.i .i64 0]else [C1.i .i64 1,C1.i .i64 6,C1.i .i64 0]
theorem aac:∀i,(hfl i).length=i*3
 |0=>rfl
 |i+1=>by rw[hfl,Cj,aac i];split<;>simp<;>omega
end Md
end
section
section
open Go.RowKit
end
end
section
section
open Go.RowKit
theorem apB{f:Nat→Value}{k1 k2 k3 k4 k5 k6 k7 k8 k9:Nat}{v1 v2 v3 v4 v5 v6 v7 v8 v9:Value}(h1:f k1=v1)(h2:f k2=v2)(h3:f k3=v3)(h4:f k4=v4)(h5:f k5=v5)(h6:f k6=v6)(h7:f k7=v7)(h8:f k8=v8)(h9:f k9=v9):∃g,f=upd (upd (upd (upd (upd (upd (upd (upd (upd g k1 v1) k2 v2) k3 v3) k4 v4) k5 v5) k6 v6) k7 v7) k8 v8) k9 v9:=⟨f,by rw[upd_same h1,upd_same h2,upd_same h3,upd_same h4,upd_same h5,upd_same h6,upd_same h7,upd_same h8,upd_same h9]⟩
end
end
end Go.Proofs.YtppilhpcmkekbaaGreat
