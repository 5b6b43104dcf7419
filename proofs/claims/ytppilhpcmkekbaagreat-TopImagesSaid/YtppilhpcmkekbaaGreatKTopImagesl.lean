/- Parts of the proof. -/
import Derived.Test.YtppilhpcmkekbaaGreatKTopImagesd
import Derived.Test.YtppilhpcmkekbaaGreatKTopImagesi
set_option linter.unusedSimpArgs false
set_option linter.unusedVariables false
set_option linter.unusedSectionVars false
set_option maxRecDepth 100000
set_option maxHeartbeats 16000000
namespace Go.Proofs.YtppilhpcmkekbaaGreat
open Go.Proofs.Tryz
section
namespace Ob
def SQ(c:List Int):Prop:=∀x∈c,0≤x∧x≤18446744073709551615
theorem QG{c:List Int}(h:SQ c)(a:Int):0≤Nv.get c a∧Nv.get c a≤18446744073709551615:=by
 unfold Nv.get
 split
 ·rename_i h1
  rw[Ba,Ar Y]
  exact h _ (FT _)
 ·omega
def hd(c:List Int)(a:Int):Bool:=
 decide (0≤a∧a<(c.length:Int))&&(decide (Oh.MZ (Nv.get c a) a=0)&&decide (Cl.size (Oh.decP (Nv.get c a) a) (Oh.Tt (Nv.get c a) a)≤(c.length:Int)-a))
def hp(c:List Int)(a:Int):Int:=if hd c a=true then Oh.decP (Nv.get c a) a else 0
def hq(c:List Int)(a:Int):Int:=if hd c a=true then Oh.Tt (Nv.get c a) a else 0
def he(c:List Int)(a:Int):Int:=if hd c a=true then 0 else 22
def pAt(c:List Int)(i:Int):Int:=min (Nv.get c i) 1099511627776
def OI(c:List Int)(a:Int)(k:Nat):List Int:=(List.range k).map fun(i:Nat)=>pAt c (a+(1+(i:Int)))
def ptrs(c:List Int)(a:Int):List Int:=OI c a (hp c a).toNat
theorem afn(c:List Int)(a:Int)(k:Nat):OI c a (k+1)=OI c a k++ [pAt c (a+(1+(k:Int)))]:=by
 unfold OI;rw[LW,BU];rfl
theorem Oe(c:List Int)(a:Int)(k:Nat):(OI c a k).length=k:=by simp[OI]
theorem amv{c:List Int}(h:SQ c)(i:Int):0≤pAt c i∧pAt c i≤1099511627776:=by have:=QG h i;unfold pAt;omega
theorem aaj{c:List Int}(h:SQ c)(a:Int):∀x∈ptrs c a,0≤x∧x≤1099511627776:=fun x hx=>by
 unfold ptrs OI at hx
 obtain⟨i,_,rfl⟩:=BX.1 hx
 exact amv h _
theorem abb{c:List Int}{a:Int}(h:hd c a=true):(0≤a∧a<(c.length:Int))∧Oh.MZ (Nv.get c a) a=0∧Cl.size (Oh.decP (Nv.get c a) a) (Oh.Tt (Nv.get c a) a)≤(c.length:Int)-a:=by
 unfold hd at h
 simp only[FV,decide_eq_true_eq]at h
 exact h
theorem as1{c:List Int}{a:Int}(h:¬(0≤a∧a<(c.length:Int))):hd c a=false:=by unfold hd;rw[decide_eq_false h,Jf]
theorem asH{c:List Int}{a:Int}(h:Oh.MZ (Nv.get c a) a≠0):hd c a=false:=by unfold hd;rw[decide_eq_false h,Jf,VP]
theorem arT{c:List Int}{a:Int}(h:¬Cl.size (Oh.decP (Nv.get c a) a) (Oh.Tt (Nv.get c a) a)≤(c.length:Int)-a):hd c a=false:=by unfold hd;rw[decide_eq_false h,VP,VP]
theorem aqy{c:List Int}{a:Int}(h1:0≤a∧a<(c.length:Int))(h2:Oh.MZ (Nv.get c a) a=0)(h3:Cl.size (Oh.decP (Nv.get c a) a) (Oh.Tt (Nv.get c a) a)≤(c.length:Int)-a):hd c a=true:=by
 unfold hd;rw[decide_eq_true h1,decide_eq_true h2,decide_eq_true h3];rfl
theorem agO(x a:Int)(h0:0≤x):0≤Oh.decP x a∧Oh.decP x a≤63∧0≤Oh.Tt x a∧Oh.Tt x a≤16384:=by
 have hr:=Oh.aec x
 cases ho:Sl.LX x a with
 |false=>have:=Oh.Uj x a ho;omega
 |true=>
  by_cases h2:Oh.enc (Oh.TL x) (Oh.SX x) a=x
  ·obtain⟨_,e1,e2⟩:=Oh.QC x a ho h2
   have:Cl.size (Oh.TL x) (Oh.SX x)≠0:=fun h=>Oh.afQ x a h h0 h2
   unfold Cl.size at this
   split at this
   ·exact absurd rfl this
   ·omega
  ·have:=Oh.WE x a ho h2;omega
theorem NG{c:List Int}(h:SQ c)(a:Int):0≤hp c a∧hp c a≤63∧0≤hq c a∧hq c a≤16384:=by
 have:=agO (Nv.get c a) a (QG h a).1
 unfold hp hq
 split<;>omega
abbrev H3:=Int×Int×Int
def hcell(h:H3):List Value:=[.int .i64 h.1,.int .i64 h.2.1,.int .i64 h.2.2]
def NY(hs:List H3)(b n:Nat):Bool:=(List.range n).all fun(i:Nat)=>decide (i=0)||decide (hs[b+i]? =some (3,0,(i:Int)))
def whole(hs:List H3)(b:Nat):Bool:=
 match hs[b]? with
 |none=>false
 |some h=>decide (h.1=2)&&(decide (1≤h.2.2∧h.2.2≤(hs.length:Int)-(b:Int))&&NY hs b h.2.2.toNat)
def Y8(hs:List H3)(b:Nat):Int:=if whole hs b=true then(match hs[b]? with|none=>0|some h=>h.2.2)else 0
theorem adY(hs:List H3)(b n:Nat):NY hs b (n+1)=(NY hs b n&&(decide (n=0)||decide (hs[b+n]? =some (3,0,(n:Int))))):=by
 unfold NY;rw[LW,List.all_append];simp
theorem adJ{hs:List H3}{b n m:Nat}(h:NY hs b m=true)(hn:n≤m):NY hs b n=true:=by
 unfold NY at h⊢
 rw[Ll]at h⊢
 intro i hi
 exact h i (H7.2 (Gh (H7.1 hi) hn))
def ahm(n:Nat)(c:List Int)(hs:List H3)(a:Int)(h:H3):Bool:=
 if Cl.ofB (Cl.size (hp c a) (hq c a))=true then(Ce.address n (Cl.WQ (Cl.size (hp c a) (hq c a))) (a/512) (a%512/Cl.words (Cl.WQ (Cl.size (hp c a) (hq c a))))==a)&&decide (h=(1,Cl.WQ (Cl.size (hp c a) (hq c a)),0))
 else whole hs (a/512).toNat&&(decide (a=Ce.first n (a/512))&&decide (h.2.2=Oh.blocks (hp c a) (hq c a)))
def pl(n:Nat)(c:List Int)(hs:List H3)(a:Int):Bool:=
 decide (512≤a∧a<512*(n:Int))&&(hd c a&&(match hs[(a/512).toNat]? with|none=>false|some h=>ahm n c hs a h))
theorem L8{n:Nat}{c:List Int}{hs:List H3}{a:Int}(h:pl n c hs a=true):512≤a∧a<512*(n:Int)∧hd c a=true:=by
 unfold pl at h
 simp only[FV,decide_eq_true_eq]at h
 exact⟨h.1.1,h.1.2,h.2.1⟩
end Ob
end
section
section
open Go.RowKit
theorem aws(a x:Int)(w:World)(ha: -9223372036854775808≤a∧a≤9223372036854775807)(hx:0≤x∧x≤18446744073709551615):
 Calls prog 205 [.int .i64 a,.int .u64 x].toArray w fun e w'=>e= .returned (.tuple [.agg [.int .i64 (Oh.decP x a),.int .i64 (Oh.Tt x a)].toArray,.int .i64 (Oh.MZ x a)].toArray)∧Only [] w w':=
 (anu a x w ha.1 ha.2 hx.1 hx.2).mono fun e w' h=>⟨h.1,Only.of_below h.2 _⟩
theorem aex(p d:Int)(w:World)(hp:0≤p∧p≤1000000)(hd:0≤d∧d≤1000000):
 Calls prog 155 [.agg [.int .i64 p,.int .i64 d].toArray].toArray w fun e w'=>e= .returned (.int .i64 (Cl.size p d))∧Only [] w w':=
 (Qz p d w Y Y Y Y).mono fun e w' h=>⟨h.1,Only.of_below h.2 _⟩
theorem aev(p d:Int)(w:World)(hp:0≤p∧p≤1000000)(hd:0≤d∧d≤1000000):
 Calls prog 129 [.agg [.int .i64 p,.int .i64 d].toArray].toArray w fun e w'=>e= .returned (.tuple [.int .i64 (Cl.WQ (Cl.size p d)),.bool (Cl.ofB (Cl.size p d))].toArray)∧Only [] w w':=
 (Xw p d w Y Y Y Y).mono fun e w' h=>⟨h.1,Only.of_below h.2 _⟩
theorem anw(p d:Int)(w:World)(hp:0≤p∧p≤1000000)(hd:0≤d∧d≤1000000):
 Calls prog 130 [.agg [.int .i64 p,.int .i64 d].toArray].toArray w fun e w'=>e= .returned (.int .i64 (Oh.blocks p d))∧Only [] w w':=
 (aeY p d w Y Y Y Y).mono fun e w' h=>⟨h.1,Only.of_below h.2 _⟩
theorem ap6(p d i:Int)(w:World)(hp:0≤p∧p≤63)(hd:0≤d∧d≤16384)(hi:0≤i∧i≤100000):
 Calls prog 251 [.agg [.int .i64 p,.int .i64 d].toArray,.int .i64 i].toArray w fun e w'=>e= .returned (.tuple [.int .i64 (1+i),.bool (Oh.inB i p)].toArray)∧Only [] w w':=
 (anf p d i w hp.1 hp.2 hd.1 hd.2 Y Y).mono fun e w' h=>⟨h.1,Only.of_below h.2 _⟩
theorem as4(p d i:Int)(w:World)(hp:0≤p∧p≤63)(hd:0≤d∧d≤16384)(hi:0≤i∧i≤100000):
 Calls prog 252 [.agg [.int .i64 p,.int .i64 d].toArray,.int .i64 i].toArray w fun e w'=>e= .returned (.tuple [.int .i64 (1+p+i),.bool (Oh.inB i d)].toArray)∧Only [] w w':=
 (ajz p d i w hp.1 hp.2 hd.1 hd.2 Y Y).mono fun e w' h=>⟨h.1,Only.of_below h.2 _⟩
theorem adk(n a:Int)(w:World)(hn:0≤n∧n≤1000000)(ha: -9223372036854775808≤a∧a≤9223372036854775807):
 Calls prog 175 [.agg [.int .i64 n].toArray,.int .i64 a].toArray w fun e w'=>e= .returned (.int .i64 (JH n a))∧Only [] w w':=
 (UF n a w hn.1 hn.2 ha.1 ha.2).mono fun e w' h=>⟨h.1,Only.of_below h.2 _⟩
theorem anV(n b:Int)(w:World)(hn:n≤1000000)(hb: -9223372036854775808≤b):
 Calls prog 204 [.agg [.int .i64 n].toArray,.int .i64 b].toArray w fun e w'=>e= .returned (.int .i64 (Ce.first n b))∧Only [] w w':=
 (aaS n b w hb hn).mono fun e w' h=>⟨h.1,Only.of_below h.2 _⟩
theorem axP(n k a:Int)(w:World)(hn:0≤n∧n≤1000000)(ha:512≤a∧a<512*n)(hk:0≤k∧k<32):
 Calls prog 203 [.agg [.int .i64 n].toArray,.int .i64 k,.int .i64 a].toArray w fun e w'=>e= .returned (.tuple [.agg [.int .i64 (a/512),.int .i64 (a%512/Cl.words k)].toArray,.bool (Ce.address n k (a/512) (a%512/Cl.words k)==a)].toArray)∧Only [] w w':=
 (arL n k a w hn.1 hn.2 ha.1 ha.2 hk.1 hk.2).mono fun e w' h=>⟨h.1,Only.of_below h.2 _⟩
section
variable{g:Geo}{d:Nv.D}{w:World}
theorem YE(hE:DW (Dz g d) w)(hw:Ob.SQ d.cache)(hl:d.cache.length≤1000000000)(a:Int)(ha: -9223372036854775808≤a∧a≤9223372036854775807):
 Calls prog 138 [ptr g.p,.int .i64 a].toArray w fun e w'=>e= .returned (.tuple [.agg [.int .i64 (Ob.hp d.cache a),.int .i64 (Ob.hq d.cache a)].toArray,.int .i64 (Ob.he d.cache a)].toArray)∧Only [] w w':=by
 have HR:=Heap.start hE
 have H:=Heap.nil w
 have hLn:=fun{W:World} (h:Only [] w W)=>Ze g d W (HR.same h).ents
 by_cases hin:0≤a∧a<(d.cache.length:Int)
 ·have hG:=fun{W:World} (h:Only [] w W)=>ZQ g d a W (HR.same h).ents
  have hx:=Ob.QG hw a
  have hD:=fun(W:World)=>aws a (Nv.get d.cache a) W ha hx
  have hb:=Ob.agO (Nv.get d.cache a) a hx.1
  by_cases he:Oh.MZ (Nv.get d.cache a) a=0
  ·have hS:=fun(W:World)=>aex (Oh.decP (Nv.get d.cache a) a) (Oh.Tt (Nv.get d.cache a) a) W Y Y
   have hsb:=Cl.aat (Oh.decP (Nv.get d.cache a) a) (Oh.Tt (Nv.get d.cache a) a)
   rw[he]at hD
   by_cases hs:Cl.size (Oh.decP (Nv.get d.cache a) a) (Oh.Tt (Nv.get d.cache a) a)≤(d.cache.length:Int)-a
   ·have hh:=Ob.aqy hin he hs
    unfold Ob.hp Ob.hq Ob.he
    rw[if_pos hh,if_pos hh,if_pos hh]
    refine BM 38 func138 O (Aw (Ea H O FK fun p4 _ H=>jv ?_))
    rintro e W1 ⟨rfl,H'⟩
    refine⟨_,rfl,?_⟩
    have H:=H.same H';clear H'
    refine xP ?_
    refine BI H O (hG H.only) (RZ O) fun W1 H=>BI H O (hD _) (ak7 O) fun W1 H=>aO ?_
    refine Ea H O FK fun p6 _ H=>gX ?_
    clear H;refine ayJ fun _ H=>?_
    refine oQ ?_
    refine AX 27 O (Je H 0 O O O EY DF) (s_call (EP 27 Ak O) (hS _) (Zn O) ?_)
    rintro e W1 ⟨rfl,H'⟩
    refine⟨_,rfl,?_⟩
    have H:=H.same H';clear H'
    refine AX 27 O (MQ O) (s_call (EP 27 Ak O) (hLn H.only) (PV O) ?_)
    rintro e W1 ⟨rfl,H'⟩
    refine⟨_,rfl,?_⟩
    have H:=H.same H';clear H'
    refine AX 27 O (Fz O) (AX 27 O (FH O O (wI Y)) (AX 27 O (ER O O Y) (fE ?_)))
    refine Aw (tZ ?_)
    refine Eh H 1 O O O O O O O DF ?_
    clear H;refine ayJ fun _ H=>?_
    refine AQ O (Au (BH (NJ O (IG H 1 O O O EY DF) (Jp (v:= .int _ _) O) ?_)))
    exact⟨rfl,H.only⟩
   ·have hh:=Ob.arT hs
    refine uo ?_
    refine BM 38 func138 O (Aw (Ea H O FK fun p4 _ H=>jv ?_))
    rintro e W1 ⟨rfl,H'⟩
    refine⟨_,rfl,?_⟩
    have H:=H.same H';clear H'
    refine xP ?_
    refine BI H O (hG H.only) (RZ O) fun W1 H=>BI H O (hD _) (ak7 O) fun W1 H=>aO ?_
    refine Ea H O FK fun p6 _ H=>gX ?_
    clear H;refine ayJ fun _ H=>?_
    refine oQ ?_
    refine AX 27 O (Je H 0 O O O EY DF) (s_call (EP 27 Ak O) (hS _) (Zn O) ?_)
    rintro e W1 ⟨rfl,H'⟩
    refine⟨_,rfl,?_⟩
    have H:=H.same H';clear H'
    refine AX 27 O (MQ O) (s_call (EP 27 Ak O) (hLn H.only) (PV O) ?_)
    rintro e W1 ⟨rfl,H'⟩
    refine⟨_,rfl,?_⟩
    have H:=H.same H';clear H'
    refine AX 27 O (Fz O) (AX 27 O (FH O O (wI Y)) (AX 27 O (Jl O O Y) (Dp O O (sH ?_))))
    refine Eh H 1 O O O O O O O DF ?_
    clear H;refine ayJ fun _ H=>?_
    refine oL ?_
    refine NJ O (IG H 1 O O O EY DF) (Jp (v:= .int _ _) O) ?_
    exact⟨rfl,H.only⟩
  ·have hh:=Ob.asH he
   refine uo ?_
   refine BM 38 func138 O (Aw (Ea H O FK fun p4 _ H=>jv ?_))
   rintro e W1 ⟨rfl,H'⟩
   refine⟨_,rfl,?_⟩
   have H:=H.same H';clear H'
   refine xP ?_
   refine BI H O (hG H.only) (RZ O) fun W1 H=>BI H O (hD _) (ak7 O) fun W1 H=>aO ?_
   refine Ea H O FK fun p6 _ H=>gX ?_
   clear H;refine ayJ fun _ H=>?_
   refine jk ?_
   refine AL (Hl O O Y) (BL O (Cc 27 O O (Cc 27 O O (Cc 27 O O (Cc 27 O O (Cc 27 O O (Cc 27 O O (Cc 27 O O (ED O O (sH ?_))))))))))
   refine Eh H 1 O O O O O O O DF ?_
   clear H;refine ayJ fun _ H=>?_
   refine oL ?_
   refine NJ O (IG H 1 O O O EY DF) (Jp (v:= .int _ _) O) ?_
   exact⟨rfl,H.only⟩
 ·have hh:=Ob.as1 hin
  refine uo ?_
  by_cases h0:a<0
  ·refine BM 38 func138 O (Aw (Ea H O FK fun p4 _ H=>pz ?_))
   refine Cc 10 O O (Cc 10 O O (Cc 10 O O (Cc 10 O O (ED O O (sH ?_)))))
   refine gX ?_
   clear H;refine ayJ fun _ H=>?_
   refine oL ?_
   refine NJ O (IG H 0 O O O EY DF) (Jp (v:= .int _ _) O) ?_
   exact⟨rfl,H.only⟩
  ·refine BM 38 func138 O (Aw (Ea H O FK fun p4 _ H=>jv ?_))
   rintro e W1 ⟨rfl,H'⟩
   refine⟨_,rfl,?_⟩
   have H:=H.same H';clear H'
   refine AX 10 O (G8 O O Y) (Dp O O (sH ?_))
   refine gX ?_
   clear H;refine ayJ fun _ H=>?_
   refine oL ?_
   refine NJ O (IG H 0 O O O EY DF) (Jp (v:= .int _ _) O) ?_
   exact⟨rfl,H.only⟩
theorem ajb(hE:DW (Dz g d) w)(hw:Ob.SQ d.cache)(hl:d.cache.length≤1000000000)(a i:Int)(hh:Ob.hd d.cache a=true)(hi:0≤i∧i<Ob.hp d.cache a):
 Calls prog 206 [ptr g.p,.int .i64 a,.int .i64 i,.bool false].toArray w fun e w'=>e= .returned (.tuple [.int .i64 (a+(1+i)),.int .i64 0].toArray)∧Only [] w w':=by
 have HR:=Heap.start hE
 have H:=Heap.nil w
 have hy:=Ob.abb hh
 have hb:=Ob.NG hw a
 have hH:=fun{W:World} (h:Only [] w W)=>YE (HR.same h).ents hw hl a Y
 have hP:=fun(W:World)=>ap6 (Ob.hp d.cache a) (Ob.hq d.cache a) i W Y Y Y
 rw[Oh.aap i _ hi.1 hi.2]at hP
 have he:Ob.he d.cache a=0:=by unfold Ob.he;rw[if_pos hh]
 rw[he]at hH
 refine BM 41 func206 O (Aw (AQ O (rU ?_)))
 refine BI H O (hH H.only) (UK O) fun W1 H=>aO ?_
 refine Ea H O FK fun p10 _ H=>gX ?_
 clear H;refine ayJ fun _ H=>?_
 refine nR ?_
 refine Aw (tZ ?_)
 refine Az O (BI H O (hP _) (aqh O) fun W1 H=>oC ?_)
 refine dX ?_
 refine AP (Aw (BL O (gK ?_)))
 refine Aw (Az O (nI ?_))
 refine pI ?_
 exact⟨rfl,H.only⟩
theorem afW(hE:DW (Dz g d) w)(hw:Ob.SQ d.cache)(hl:d.cache.length≤1000000000)(a i:Int)(hh:Ob.hd d.cache a=true)(hi:0≤i∧i<Ob.hq d.cache a):
 Calls prog 206 [ptr g.p,.int .i64 a,.int .i64 i,.bool true].toArray w fun e w'=>e= .returned (.tuple [.int .i64 (a+(1+Ob.hp d.cache a+i)),.int .i64 0].toArray)∧Only [] w w':=by
 have HR:=Heap.start hE
 have H:=Heap.nil w
 have hy:=Ob.abb hh
 have hb:=Ob.NG hw a
 have hH:=fun{W:World} (h:Only [] w W)=>YE (HR.same h).ents hw hl a Y
 have hP:=fun(W:World)=>ap6 (Ob.hp d.cache a) (Ob.hq d.cache a) i W Y Y Y
 have hD:=fun(W:World)=>as4 (Ob.hp d.cache a) (Ob.hq d.cache a) i W Y Y Y
 rw[Oh.aap i _ hi.1 hi.2]at hD
 have he:Ob.he d.cache a=0:=by unfold Ob.he;rw[if_pos hh]
 rw[he]at hH
 refine BM 41 func206 O (Aw (AQ O (rU ?_)))
 refine BI H O (hH H.only) (UK O) fun W1 H=>aO ?_
 refine Ea H O FK fun p10 _ H=>gX ?_
 clear H;refine ayJ fun _ H=>?_
 refine nR ?_
 refine Aw (tZ ?_)
 refine Az O (BI H O (hP _) (aqh O) fun W1 H=>oC ?_)
 refine Au (EI O (DR (tZ ?_)))
 refine Az O (BI H O (hD _) (avN O) fun W1 H=>oC ?_)
 refine gK ?_
 refine Aw (Az O (nI ?_))
 refine pI ?_
 exact⟨rfl,H.only⟩
theorem ai3(hE:DW (Dz g d) w)(hw:Ob.SQ d.cache)(hl:d.cache.length≤1000000000)(a i:Int)(hh:Ob.hd d.cache a=true)(hi:0≤i∧i<Ob.hp d.cache a):
 Calls prog 139 [ptr g.p,.int .i64 a,.int .i64 i].toArray w fun e w'=>e= .returned (.tuple [.int .i64 (Ob.pAt d.cache (a+(1+i))),.int .i64 0].toArray)∧Only [] w w':=by
 have HR:=Heap.start hE
 have H:=Heap.nil w
 have hy:=Ob.abb hh
 have hb:=Ob.NG hw a
 have hF:=fun{W:World} (h:Only [] w W)=>ajb (HR.same h).ents hw hl a i hh hi
 have hG:=fun{W:World} (h:Only [] w W)=>ZQ g d (a+(1+i)) W (HR.same h).ents
 have hx:=Ob.QG hw (a+(1+i))
 have hpb:=Ob.amv hw (a+(1+i))
 have hm:(if 1099511627776<Nv.get d.cache (a+(1+i))then 1099511627776 else Nv.get d.cache (a+(1+i)))=Ob.pAt d.cache (a+(1+i)):=by unfold Ob.pAt;rw[Int.min_def];split<;>split<;>omega
 refine BM 25 func139 O (Aw (AQ O (rU ?_)))
 refine Az O (BI H O (hF H.only) (aiN O) fun W1 H=>wQ ?_)
 refine jl ?_
 refine BI H O (hG H.only) (RZ O) fun W1 H=>AL (aqR O O hm) (AL (Ro O Ak underlying3 (wI Y)) (pI ?_))
 exact⟨rfl,H.only⟩
theorem amD(hE:DW (Dz g d) w)(hw:Ob.SQ d.cache)(hl:d.cache.length≤1000000000)(a:Int)(hh:Ob.hd d.cache a=true):
 Calls prog 190 [ptr g.p,.int .i64 a].toArray w fun e w'=>∃A c,e= .returned (.tuple [.slice A (Ob.ptrs d.cache a).length c,.int .i64 0].toArray)∧Heap w [] [Dw 1 (.slice A (Ob.ptrs d.cache a).length c) (Ob.ptrs d.cache a).length ((Ob.ptrs d.cache a).map (Value.int .i64)) 3] w':=by
 have HR:=Heap.start hE
 have H:=Heap.nil w
 have hy:=Ob.abb hh
 have hb:=Ob.NG hw a
 have hH:=fun{W:World} (h:Only [] w W)=>YE (HR.same h).ents hw hl a Y
 have he:Ob.he d.cache a=0:=by unfold Ob.he;rw[if_pos hh]
 rw[he]at hH
 obtain⟨n,hn⟩:∃n:Nat,Ob.hp d.cache a=n:=⟨(Ob.hp d.cache a).toNat,Y⟩
 have hP:=fun(i:Nat) (hi:i<n) {W:World} (h:Only [] w W)=>ai3 (HR.same h).ents hw hl a i hh ⟨Y,Y⟩
 have hpt:Ob.ptrs d.cache a=Ob.OI d.cache a n:=by unfold Ob.ptrs;rw[hn,Bz]
 rw[hpt,Ob.Oe]
 rw[hn]at hH
 refine BM 39 func190 O (Aw (En O (rU ?_)))
 refine BI H O (hH H.only) (UK O) fun W1 H=>aO ?_
 refine Ea H O FK fun p6 _ H=>gX ?_
 clear H;refine ayJ fun _ H=>?_
 refine nR ?_
 refine Aw (En O (Au (AP (Aw (BR O ad7 (mQ ?_))))))
 refine tV ?_
 refine Ec (fun z f W=>∃(i:Nat) (OA:Option Addr) (oc:Nat),i≤n∧z=n-i∧f 0=ptr g.p∧f 1= .int .i64 a∧f 8= .slice OA i oc∧f 22= .int .i64 n∧f 23= .int .i64 i∧Heap w [] [Dw 1 (.slice OA i oc) i ((Ob.OI d.cache a i).map (Value.int .i64)) 3] W) n ⟨0,none,0,Y,rfl,rfl,rfl,rfl,rfl,rfl,(Heap.clear H).G6 1 3⟩ ?_
 clear H
 rintro z f W ⟨i,OA,oc,hi,rfl,f0,f1,f8,f22,f23,H⟩
 obtain⟨f,rfl⟩:=Lr f0 f1 f8 f22 f23
 clear f0 f1 f8 f22 f23
 by_cases hlt:i<n
 ·have hP:=fun{W:World} (h:Only [] w W)=>hP i hlt h
  refine lW ?_
  refine rU ?_
  refine Az O (BI H O (hP H.only) (XQ O) fun W1 H=>eH ?_)
  refine Au (DR (CY O (Az O (lQ ?_))))
  clear H;intro _ An cn _ H;simp only[Bv,Nat.reduceAdd]at H
  refine En O (vG ?_)
  rw[←Ob.afn]at H
  exact⟨_,_,Y,rfl,i+1,_,_,Y,rfl,rfl,rfl,rfl,rfl,rfl,H⟩
 ·obtain rfl:i=n:=Y
  refine uS ?_
  refine CY O (xO ?_)
  exact⟨_,_,rfl,H⟩
end
end
end
section
section
open Go.RowKit
def JQ(w:World)(F:List Nat)(A:Option Addr)(hs:List Ob.H3):Prop:=hs.length≠0→∃b o,A=some ⟨b,o,none⟩∧b∉F∧∀i h,hs[i]? =some h→Reads (fun v:Value=>v) w b (o+i*3) [.int .i64 h.1,.int .i64 h.2.1,.int .i64 h.2.2]
theorem JQ.later{w W:World}{F G:List Nat}{A:Option Addr}{hs:List Ob.H3}(h:JQ w F A hs)(hO:Only G w W)(hG:∀i∈G,i∈F):JQ W F A hs:=fun h0=>by
 obtain⟨b,o,e,hb,hr⟩:=h h0
 exact⟨b,o,e,hb,fun i x hi=>(hr i x hi).later hO (fun hm=>hb (hG b hm))⟩
theorem JQ.mono{w:World}{F G:List Nat}{A:Option Addr}{hs:List Ob.H3}(h:JQ w F A hs)(hG:∀i∈G,i∈F):JQ w G A hs:=fun h0=>by
 obtain⟨b,o,e,hb,hr⟩:=h h0
 exact⟨b,o,e,fun hm=>hb (hG b hm),hr⟩
def hsW(hs:List Ob.H3):Prop:=∀h∈hs,(-9223372036854775808≤h.2.2∧h.2.2≤9223372036854775807)
theorem akY(A:Option Addr)(n c:Nat)(hs:List Ob.H3)(b:Nat)(w:World)(hS:JQ w [] A hs)(hl:hs.length=n)(hn:n≤1000000)(hb:b≤1000000)(hW:hsW hs):
 Calls prog 176 [.slice A n c,.int .i64 b].toArray w fun e w'=>e= .returned (.tuple [.int .i64 (Ob.Y8 hs b),.bool (Ob.whole hs b)].toArray)∧Only [] w w':=by
 have H:=Heap.nil w
 by_cases hlt:b<n
 ·obtain⟨h,hh⟩:∃h,hs[b]? =some h:=⟨_,Ar Y⟩
  have hwb:=hW h (A8 hh)
  obtain⟨q,o,rfl,_,hrd⟩:=hS Y
  have hre:=hrd b h hh
  have c0:=hre 0 _ rfl
  have c2:=hre 2 _ rfl
  by_cases hk:h.1=2
  ·by_cases hr:1≤h.2.2∧h.2.2≤(n:Int)-b
   ·obtain⟨m,hm⟩:∃m:Nat,h.2.2=m:=⟨h.2.2.toNat,Y⟩
    have hwh:Ob.whole hs b=Ob.NY hs b m:=by
     unfold Ob.whole;rw[hh];simp only[hl];rw[decide_eq_true hk,decide_eq_true hr,hm,Bz];rfl
    have hwl:Ob.Y8 hs b=if Ob.NY hs b m=true then(m:Int)else 0:=by
     unfold Ob.Y8;rw[hwh,hh];simp only[hm]
    rw[hwl,hwh]
    rw[hm]at c2
    refine rJ ?_
    refine kR ?_
    refine AX 31 O (ER O O Y) (fE ?_)
    refine tC ?_
    refine Ec (fun z f W=>∃(i:Nat),1≤i∧i≤m∧z=m-i∧Ob.NY hs b i=true∧f 0= .slice (some ⟨q,o,none⟩) n c∧f 1= .int .i64 b∧f 6= .int .i64 m∧f 7= .int .i64 i∧Heap w [] [] W) (m-1) ⟨1,Y,Y,rfl,rfl,rfl,rfl,rfl,rfl,H⟩ ?_
    clear H
    rintro z f W ⟨i,hi1,hi,rfl,hwt,f0,f1,f6,f7,H⟩
    obtain⟨f,rfl⟩:=Ih f0 f1 f6 f7
    clear f0 f1 f6 f7
    by_cases hit:i<m
    ·obtain⟨y,hy⟩:∃y,hs[b+i]? =some y:=⟨_,Ar Y⟩
     have hry:=hrd (b+i) y hy
     obtain⟨y1,y2,y3⟩:=y
     have hsu:=Ob.adY hs b i
     rw[hwt,GL,decide_eq_false (by omega:¬i=0),Bool.false_or,hy]at hsu
     by_cases e:y1=3∧y2=0∧y3=i
     ·obtain⟨rfl,rfl,rfl⟩:=e
      rw[decide_eq_true rfl]at hsu
      refine wR ?_
      refine AL (SB (enc:=fun v:Value=>v) (zs:=[.int .i64 3,.int .i64 0,.int .i64 i]) (hry.later H.only J) O O Iy EC) (Az O (AL (FP (acE _ _) O) (AL (aql (q:=false) O O Ak Ak Ak Ak underlying3 underlying3 underlying3 J) (Au (DX O (Bj (jy ?_)))))))
      exact⟨_,_,Y,rfl,i+1,Y,Y,rfl,hsu,rfl,rfl,rfl,rfl,H⟩
     ·have hne:¬Ob.NY hs b m=true:=fun hm2=>by
       have h1:=Ob.adJ hm2 (show i+1≤m by omega)
       rw[hsu]at h1
       have h2:=of_decide_eq_true h1
       injection h2 with h2
       injection h2 with h2 h3
       injection h3 with h3 h4
       exact e ⟨h2,h3,h4⟩
      have hfa:Ob.NY hs b m=false:=by simpa using hne
      rw[if_neg hne,hfa]
      refine wR ?_
      refine AL (SB (enc:=fun v:Value=>v) (zs:=[.int .i64 y1,.int .i64 y2,.int .i64 y3]) (hry.later H.only J) O O Iy EC) (Az O (AL (FP (acE _ _) O) (AL (aql (q:=true) O O Ak Ak Ak Ak underlying3 underlying3 underlying3 (by simpa using e)) (ql ?_))))
      refine AQ O (BN O (Au (BH (Fe (CX (CX (Fe (CX (iL ?_)))))))))
      exact⟨rfl,H.only⟩
    ·obtain rfl:i=m:=Y
     rw[if_pos hwt,hwt]
     refine fJ ?_
     refine Az O (kH ?_)
     refine Aw (Az O (AQ O (BN O (Au (BH (iL ?_))))))
     exact⟨rfl,H.only⟩
   ·have hwh:Ob.whole hs b=false:=by
     unfold Ob.whole;rw[hh];simp only[hl];rw[decide_eq_false hr];simp
    have hwl:Ob.Y8 hs b=0:=by unfold Ob.Y8;rw[hwh];rfl
    rw[hwl,hwh]
    by_cases h1:h.2.2<1
    ·refine rJ ?_
     refine AL (JY (i:=b) O O Y Y underlying128 EC) (AL (JV O ad2) (AL (Hq H O c2 J GU) (pz ?_)))
     refine Cc 31 O O (Cc 31 O O (Cc 31 O O (Cc 31 O O (Cc 31 O O (Cc 31 O O (ED O O (sQ ?_)))))))
     exact⟨rfl,H.only⟩
    ·refine rJ ?_
     refine kR ?_
     refine AX 31 O (Jl O O Y) (Dp O O (sQ ?_))
     exact⟨rfl,H.only⟩
  ·have hwh:Ob.whole hs b=false:=by
    unfold Ob.whole;rw[hh];simp only[hl];rw[decide_eq_false hk];rfl
   have hwl:Ob.Y8 hs b=0:=by unfold Ob.Y8;rw[hwh];rfl
   rw[hwl,hwh]
   refine BM 54 func176 O (Aw (AQ O (BN O (Au (dY ?_)))))
   refine AX 16 O (Hl O O Y) (Dp O O (sQ ?_))
   exact⟨rfl,H.only⟩
 ·have hno:hs[b]? =none:=DC Y
  have hwh:Ob.whole hs b=false:=by unfold Ob.whole;rw[hno]
  have hwl:Ob.Y8 hs b=0:=by unfold Ob.Y8;rw[hwh];rfl
  rw[hwl,hwh]
  refine BM 54 func176 O (Aw (AQ O (BN O (Au (fJ ?_)))))
  refine AL (CO O O Y) (BL O (AX 10 O (Fz O) (AX 10 O (UN O) (AX 10 O (Ey O underlying128) (AX 10 O (G8 O O Y) (Dp O O (BL O (Cc 16 O O (Cc 16 O O (Cc 16 O O (Cc 16 O O (Cc 16 O O (Cc 16 O O ?_)))))))))))))
  refine ED O O (sQ ?_)
  exact⟨rfl,H.only⟩
theorem abA{g:Geo}{d:Nv.D}{w:World}(hE:DW (Dz g d) w)(hw:Ob.SQ d.cache)(hl:d.cache.length≤1000000000)(A:Option Addr)(k c:Nat)(hs:List Ob.H3)(hS:JQ w [] A hs)(hk:hs.length=k)(hk2:k≤1000000)(hW:hsW hs)(n:Nat)(hn:n≤1000000)(a:Int)(ha: -9223372036854775808≤a∧a≤9223372036854775807):
 Calls prog 137 [ptr g.p,.agg [.int .i64 n].toArray,.slice A k c,.int .i64 a].toArray w fun e w'=>(∃P D:Int,e= .returned (.tuple [.agg [.int .i64 P,.int .i64 D].toArray,.bool (Ob.pl n d.cache hs a)].toArray)∧(Ob.pl n d.cache hs a=true→P=Ob.hp d.cache a∧D=Ob.hq d.cache a))∧Only [] w w':=by
 have HR:=Heap.start hE
 have H:=Heap.nil w
 have hB:=fun(W:World)=>adk n a W Y ha
 by_cases hin:512≤a∧a<512*(n:Int)
 ·obtain⟨b,hb⟩:∃b:Nat,a/512=b:=⟨(a/512).toNat,Y⟩
  have hbo:JH n a=b:=by unfold JH;rw[if_pos Y];exact hb
  rw[hbo]at hB
  by_cases hbk:b<k
  ·obtain⟨h,hh⟩:∃h,hs[b]? =some h:=⟨_,Ar Y⟩
   have hHd:=fun{W:World} (h:Only [] w W)=>YE (HR.same h).ents hw hl a ha
   cases hd:Ob.hd d.cache a with
   |false=>
    have hp:Ob.pl n d.cache hs a=false:=by unfold Ob.pl;rw[hd];simp
    have he:Ob.he d.cache a=22:=by unfold Ob.he;rw[hd];rfl
    rw[hp]
    rw[he]at hHd
    refine BM 87 func137 O (Aw (DU H O O fun p5 _ H=>Ea H O FK fun p8 _ H=>vk ?_))
    refine BI H O (hB _) (WV O) fun W1 H=>jT ?_
    refine BI H O (hHd H.only) (UK O) fun W1 H=>aO ?_
    refine Ea H O FK fun p11 _ H=>gX ?_
    clear H;refine ayJ fun _ H=>?_
    refine jk ?_
    refine AL (Hl O O Y) (sH ?_)
    refine Eh H 1 O O O O O O O DF ?_
    clear H;refine ayJ fun _ H=>?_
    refine BN O (Au (BH (CX (NJ O (IG H 1 O O O EY DF) (Jp (v:= .bool _) O) ?_))))
    exact⟨⟨0,0,rfl,fun h=>by cases h⟩,H.only⟩
   |true=>
    have hpq:=Ob.NG hw a
    have he:Ob.he d.cache a=0:=by unfold Ob.he;rw[hd];rfl
    rw[he]at hHd
    have hp:Ob.pl n d.cache hs a=Ob.ahm n d.cache hs a h:=by
     unfold Ob.pl;rw[hd,decide_eq_true hin,hb,Bz,hh];rfl
    rw[hp]
    obtain⟨q,o,rfl,_,hrd⟩:=hS Y
    have hre:=hrd b h hh
    have hSm:=fun(W:World)=>aev (Ob.hp d.cache a) (Ob.hq d.cache a) W Y Y
    have hsb:=Cl.aat (Ob.hp d.cache a) (Ob.hq d.cache a)
    unfold Ob.ahm
    generalize hP:Ob.hp d.cache a=P at*
    generalize hQ:Ob.hq d.cache a=Q at*
    have hBl:=fun(W:World)=>anw P Q W Y Y
    have hFi:=fun(W:World)=>anV n b W Y Y
    generalize Cl.size P Q=sz at*
    cases hob:Cl.ofB sz with
    |true=>
     have hkb:=Cl.QO sz
     generalize Cl.WQ sz=kk at*
     have hAt:=fun(W:World)=>axP n kk a W Y hin Y
     rw[hob]at hSm
     rw[if_pos rfl]
     rw[hb]at hAt⊢
     cases hat:(Ce.address n kk b (a%512/Cl.words kk)==a)with
     |true=>
      rw[hat]at hAt
      rw[GL]
      obtain⟨h1,h2,h3⟩:=h
      have hde:decide (h1=1∧h2=kk∧h3=0)=decide ((h1,h2,h3)=(1,kk,0)):=by
       rw[decide_eq_decide];simp
      refine BM 87 func137 O (Aw (DU H O O fun p5 _ H=>Ea H O FK fun p8 _ H=>vk ?_))
      refine BI H O (hB _) (WV O) fun W1 H=>jT ?_
      refine BI H O (hHd H.only) (UK O) fun W1 H=>aO ?_
      refine Ea H O FK fun p11 _ H=>gX ?_
      clear H;refine ayJ fun _ H=>?_
      refine nR ?_
      refine Aw (CY O (Az O (AL (JY (i:=b) O O Y Y underlying128 EC) (AL (SB (enc:=fun v:Value=>v) (zs:=[.int .i64 h1,.int .i64 h2,.int .i64 h3]) (hre.later H.only J) O O Iy EC) (Ea H O J9 fun p13 _ H=>tN ?_)))))
      clear H;refine ayJ fun _ H=>?_
      refine Au (Aw (ny ?_))
      refine BI H O (hSm _) (Ym O) fun W1 H=>oC ?_
      refine ql ?_
      refine Dn H 3 O O O H6 G5 (Az O (Az O (BI H O (hAt _) (aqO O) fun W1 H=>xI ?_)))
      refine lH ?_
      refine Ea H O alj fun p16 _ H=>Eh H 0 O O O O O O O aqW ?_
      clear H;refine ayJ fun _ H=>?_
      refine BN O (Au (AP ?_))
      refine Gu mixed ?_;replace H:=H.drew
      refine dP ?_
      refine Eo 4 O O (EP 60 Ak O) (fun _ hS=>BP (v:= .int _ _) O) trivial (Eo 5 O O (EP 60 Ak O) (fun _ hS=>FP (ads _ _) O) trivial ?_)
      refine D6 0 3 ?_ ?_
      ·refine BO O (Dn H 2 O O O EY DF (aj ?_))
       refine D6 3 8 ?_ ?_
       ·refine BO O (wS ?_)
        refine Bd 8 O (Eh H 3 O O O O O O O DF ?_)
        clear H;refine ayJ fun _ H=>?_
        refine aj ?_
        refine kJ ?_
        exact⟨⟨P,Q,rfl,fun _=>⟨rfl,rfl⟩⟩,H.only⟩
       ·refine BO O (Eh H 3 O O O O O O O DF ?_)
        clear H;refine ayJ fun _ H=>?_
        refine qx ?_
        refine wS ?_
        refine kJ ?_
        exact⟨⟨P,Q,rfl,fun _=>⟨rfl,rfl⟩⟩,H.only⟩
      ·refine BO O (wS ?_)
       refine Bd 0 O (Dn H 2 O O O EY DF (aj ?_))
       refine Bd 8 O (Eh H 3 O O O O O O O DF ?_)
       clear H;refine ayJ fun _ H=>?_
       refine aj ?_
       refine kJ ?_
       exact⟨⟨P,Q,rfl,fun _=>⟨rfl,rfl⟩⟩,H.only⟩
     |false=>
      rw[hat]at hAt
      rw[Jf]
      refine BM 87 func137 O (Aw (DU H O O fun p5 _ H=>Ea H O FK fun p8 _ H=>vk ?_))
      refine BI H O (hB _) (WV O) fun W1 H=>jT ?_
      refine BI H O (hHd H.only) (UK O) fun W1 H=>aO ?_
      refine Ea H O FK fun p11 _ H=>gX ?_
      clear H;refine ayJ fun _ H=>?_
      refine ug ?_
      refine Ea H O J9 fun p13 _ H=>tN ?_
      clear H;refine ayJ fun _ H=>?_
      refine Au (Aw (ny ?_))
      refine BI H O (hSm _) (Ym O) fun W1 H=>oC ?_
      refine ql ?_
      refine Dn H 3 O O O H6 G5 (Az O (Az O (BI H O (hAt _) (aqO O) fun W1 H=>xI ?_)))
      refine lH ?_
      refine Ea H O alj fun p16 _ H=>Eh H 0 O O O O O O O aqW ?_
      clear H;refine ayJ fun _ H=>?_
      refine BN O (Au (AP ?_))
      refine Gu mixed ?_;replace H:=H.drew
      refine dP ?_
      refine ZK 3 O O (FI 60 Ak O O) trivial (ZK 4 O O (FI 60 Ak O O) trivial (ZK 5 O O (FI 60 Ak O O) trivial (ZK 6 O O (FI 60 Ak O O) trivial (Eo 7 O O O (fun _ hS=>Ku (v:= .bool _) O O) trivial (Bd 0 O (Dn H 2 O O O EY DF (aj ?_)))))))
      refine Bd 8 O (Eh H 3 O O O O O O O DF ?_)
      clear H;refine ayJ fun _ H=>?_
      refine aj ?_
      refine kJ ?_
      exact⟨⟨P,Q,rfl,fun _=>⟨rfl,rfl⟩⟩,H.only⟩
    |false=>
     rw[hob]at hSm
     rw[if_neg J,hb,Bz]
     have hWh:=fun{W:World} (h:Only [] w W)=>akY (some ⟨q,o,none⟩) k c hs b W (hS.later h J) hk hk2 Y hW
     cases hwh:Ob.whole hs b with
     |true=>
      have hwl:Ob.Y8 hs b=h.2.2:=by unfold Ob.Y8;rw[hwh,hh];rfl
      rw[hwh,hwl]at hWh
      rw[GL]
      by_cases hf:a=Ce.first n b
      ·rw[decide_eq_true hf,GL]
       by_cases hbl:h.2.2=Oh.blocks P Q
       ·rw[decide_eq_true hbl]
        refine BM 87 func137 O (Aw (DU H O O fun p5 _ H=>Ea H O FK fun p8 _ H=>vk ?_))
        refine BI H O (hB _) (WV O) fun W1 H=>jT ?_
        refine BI H O (hHd H.only) (UK O) fun W1 H=>aO ?_
        refine Ea H O FK fun p11 _ H=>gX ?_
        clear H;refine ayJ fun _ H=>?_
        refine ug ?_
        refine Ea H O J9 fun p13 _ H=>tN ?_
        clear H;refine ayJ fun _ H=>?_
        refine Au (Aw (ny ?_))
        refine BI H O (hSm _) (Ym O) fun W1 H=>xA ?_
        refine BI H O (hWh H.only) (afb O) fun W1 H=>aX ?_
        refine Au (AP ?_)
        refine Gu mixed ?_;replace H:=H.drew
        refine iJ ?_
        refine D6 0 4 ?_ ?_
        ·refine nX ?_
         rintro e W1 ⟨rfl,H'⟩
         refine⟨_,rfl,?_⟩
         have H:=H.same H';clear H'
         refine aj ?_
         refine aY ?_
         refine fC ?_
         rintro e W1 ⟨rfl,H'⟩
         refine⟨_,rfl,?_⟩
         have H:=H.same H';clear H'
         refine aj ?_
         refine lK ?_
         refine dH ?_
         clear H;refine ayJ fun _ H=>?_
         refine aV ?_
         exact⟨⟨P,Q,rfl,fun _=>⟨rfl,rfl⟩⟩,H.only⟩
        ·refine BO O (AX 74 O (Je H 3 O O O H6 G5) (aj ?_))
         refine D6 0 6 ?_ ?_
         ·refine BO O (ny ?_)
          refine nH ?_
          refine jZ ?_
          rintro e W1 ⟨rfl,H'⟩
          refine⟨_,rfl,?_⟩
          have H:=H.same H';clear H'
          refine aj ?_
          refine aY ?_
          refine fC ?_
          rintro e W1 ⟨rfl,H'⟩
          refine⟨_,rfl,?_⟩
          have H:=H.same H';clear H'
          refine aj ?_
          refine lK ?_
          refine dH ?_
          clear H;refine ayJ fun _ H=>?_
          refine aV ?_
          exact⟨⟨P,Q,rfl,fun _=>⟨rfl,rfl⟩⟩,H.only⟩
         ·refine BO O (jZ ?_)
          rintro e W1 ⟨rfl,H'⟩
          refine⟨_,rfl,?_⟩
          have H:=H.same H';clear H'
          refine aj ?_
          refine aY ?_
          refine D6 0 11 ?_ ?_
          ·refine BO O (ny ?_)
           refine aj ?_
           refine fC ?_
           rintro e W1 ⟨rfl,H'⟩
           refine⟨_,rfl,?_⟩
           have H:=H.same H';clear H'
           refine aj ?_
           refine lK ?_
           refine dH ?_
           clear H;refine ayJ fun _ H=>?_
           refine aV ?_
           exact⟨⟨P,Q,rfl,fun _=>⟨rfl,rfl⟩⟩,H.only⟩
          ·refine BO O (AX 81 O (Je H 1 O O O EY DF) (aj ?_))
           refine D6 0 12 ?_ ?_
           ·refine BO O (ny ?_)
            refine aj ?_
            refine Bd 12 O (s_call (EP 81 Ak O) (hBl _) (WT O) ?_)
            rintro e W1 ⟨rfl,H'⟩
            refine⟨_,rfl,?_⟩
            have H:=H.same H';clear H'
            refine aj ?_
            refine lK ?_
            refine dH ?_
            clear H;refine ayJ fun _ H=>?_
            refine aV ?_
            exact⟨⟨P,Q,rfl,fun _=>⟨rfl,rfl⟩⟩,H.only⟩
           ·refine BO O (s_call (EP 81 Ak O) (hBl _) (WT O) ?_)
            rintro e W1 ⟨rfl,H'⟩
            refine⟨_,rfl,?_⟩
            have H:=H.same H';clear H'
            refine aj ?_
            refine lK ?_
            refine Eo 14 O O O (fun _ hS=>HY (v:= .bool _) O O) trivial (pJ ?_)
            clear H;refine ayJ fun _ H=>?_
            refine aV ?_
            exact⟨⟨P,Q,rfl,fun _=>⟨rfl,rfl⟩⟩,H.only⟩
       ·rw[decide_eq_false hbl]
        refine BM 87 func137 O (Aw (DU H O O fun p5 _ H=>Ea H O FK fun p8 _ H=>vk ?_))
        refine BI H O (hB _) (WV O) fun W1 H=>jT ?_
        refine BI H O (hHd H.only) (UK O) fun W1 H=>aO ?_
        refine Ea H O FK fun p11 _ H=>gX ?_
        clear H;refine ayJ fun _ H=>?_
        refine ug ?_
        refine Ea H O J9 fun p13 _ H=>tN ?_
        clear H;refine ayJ fun _ H=>?_
        refine Au (Aw (ny ?_))
        refine BI H O (hSm _) (Ym O) fun W1 H=>xA ?_
        refine BI H O (hWh H.only) (afb O) fun W1 H=>aX ?_
        refine Au (AP ?_)
        refine Gu mixed ?_;replace H:=H.drew
        refine iJ ?_
        refine D6 0 4 ?_ ?_
        ·refine nX ?_
         rintro e W1 ⟨rfl,H'⟩
         refine⟨_,rfl,?_⟩
         have H:=H.same H';clear H'
         refine aj ?_
         refine aY ?_
         refine fC ?_
         rintro e W1 ⟨rfl,H'⟩
         refine⟨_,rfl,?_⟩
         have H:=H.same H';clear H'
         refine aj ?_
         refine lJ ?_
         refine dH ?_
         clear H;refine ayJ fun _ H=>?_
         refine aV ?_
         exact⟨⟨P,Q,rfl,fun _=>⟨rfl,rfl⟩⟩,H.only⟩
        ·refine BO O (AX 74 O (Je H 3 O O O H6 G5) (aj ?_))
         refine D6 0 6 ?_ ?_
         ·refine BO O (ny ?_)
          refine nH ?_
          refine jZ ?_
          rintro e W1 ⟨rfl,H'⟩
          refine⟨_,rfl,?_⟩
          have H:=H.same H';clear H'
          refine aj ?_
          refine aY ?_
          refine fC ?_
          rintro e W1 ⟨rfl,H'⟩
          refine⟨_,rfl,?_⟩
          have H:=H.same H';clear H'
          refine aj ?_
          refine lJ ?_
          refine dH ?_
          clear H;refine ayJ fun _ H=>?_
          refine aV ?_
          exact⟨⟨P,Q,rfl,fun _=>⟨rfl,rfl⟩⟩,H.only⟩
         ·refine BO O (jZ ?_)
          rintro e W1 ⟨rfl,H'⟩
          refine⟨_,rfl,?_⟩
          have H:=H.same H';clear H'
          refine aj ?_
          refine aY ?_
          refine D6 0 11 ?_ ?_
          ·refine BO O (ny ?_)
           refine aj ?_
           refine fC ?_
           rintro e W1 ⟨rfl,H'⟩
           refine⟨_,rfl,?_⟩
           have H:=H.same H';clear H'
           refine aj ?_
           refine lJ ?_
           refine dH ?_
           clear H;refine ayJ fun _ H=>?_
           refine aV ?_
           exact⟨⟨P,Q,rfl,fun _=>⟨rfl,rfl⟩⟩,H.only⟩
          ·refine BO O (AX 81 O (Je H 1 O O O EY DF) (aj ?_))
           refine D6 0 12 ?_ ?_
           ·refine BO O (ny ?_)
            refine aj ?_
            refine Bd 12 O (s_call (EP 81 Ak O) (hBl _) (WT O) ?_)
            rintro e W1 ⟨rfl,H'⟩
            refine⟨_,rfl,?_⟩
            have H:=H.same H';clear H'
            refine aj ?_
            refine lJ ?_
            refine dH ?_
            clear H;refine ayJ fun _ H=>?_
            refine aV ?_
            exact⟨⟨P,Q,rfl,fun _=>⟨rfl,rfl⟩⟩,H.only⟩
           ·refine BO O (s_call (EP 81 Ak O) (hBl _) (WT O) ?_)
            rintro e W1 ⟨rfl,H'⟩
            refine⟨_,rfl,?_⟩
            have H:=H.same H';clear H'
            refine aj ?_
            refine lJ ?_
            refine Eo 14 O O O (fun _ hS=>HY (v:= .bool _) O O) trivial (pJ ?_)
            clear H;refine ayJ fun _ H=>?_
            refine aV ?_
            exact⟨⟨P,Q,rfl,fun _=>⟨rfl,rfl⟩⟩,H.only⟩
      ·rw[decide_eq_false hf,Jf]
       refine BM 87 func137 O (Aw (DU H O O fun p5 _ H=>Ea H O FK fun p8 _ H=>vk ?_))
       refine BI H O (hB _) (WV O) fun W1 H=>jT ?_
       refine BI H O (hHd H.only) (UK O) fun W1 H=>aO ?_
       refine Ea H O FK fun p11 _ H=>gX ?_
       clear H;refine ayJ fun _ H=>?_
       refine ug ?_
       refine Ea H O J9 fun p13 _ H=>tN ?_
       clear H;refine ayJ fun _ H=>?_
       refine Au (Aw (ny ?_))
       refine BI H O (hSm _) (Ym O) fun W1 H=>xA ?_
       refine BI H O (hWh H.only) (afb O) fun W1 H=>aX ?_
       refine Au (AP ?_)
       refine Gu mixed ?_;replace H:=H.drew
       refine iJ ?_
       refine D6 0 4 ?_ ?_
       ·refine nX ?_
        rintro e W1 ⟨rfl,H'⟩
        refine⟨_,rfl,?_⟩
        have H:=H.same H';clear H'
        refine aj ?_
        refine jd ?_
        refine Bd 15 O (Eh H 2 O O O O O O O DF ?_)
        clear H;refine ayJ fun _ H=>?_
        refine aV ?_
        exact⟨⟨P,Q,rfl,fun _=>⟨rfl,rfl⟩⟩,H.only⟩
       ·refine BO O (AX 74 O (Je H 3 O O O H6 G5) (aj ?_))
        refine D6 0 6 ?_ ?_
        ·refine BO O (ny ?_)
         refine nH ?_
         refine jZ ?_
         rintro e W1 ⟨rfl,H'⟩
         refine⟨_,rfl,?_⟩
         have H:=H.same H';clear H'
         refine aj ?_
         refine jd ?_
         refine Bd 15 O (Eh H 2 O O O O O O O DF ?_)
         clear H;refine ayJ fun _ H=>?_
         refine aV ?_
         exact⟨⟨P,Q,rfl,fun _=>⟨rfl,rfl⟩⟩,H.only⟩
        ·refine BO O (jZ ?_)
         rintro e W1 ⟨rfl,H'⟩
         refine⟨_,rfl,?_⟩
         have H:=H.same H';clear H'
         refine aj ?_
         refine jd ?_
         refine pJ ?_
         clear H;refine ayJ fun _ H=>?_
         refine aV ?_
         exact⟨⟨P,Q,rfl,fun _=>⟨rfl,rfl⟩⟩,H.only⟩
     |false=>
      rw[hwh]at hWh
      rw[Jf]
      refine BM 87 func137 O (Aw (DU H O O fun p5 _ H=>Ea H O FK fun p8 _ H=>vk ?_))
      refine BI H O (hB _) (WV O) fun W1 H=>jT ?_
      refine BI H O (hHd H.only) (UK O) fun W1 H=>aO ?_
      refine Ea H O FK fun p11 _ H=>gX ?_
      clear H;refine ayJ fun _ H=>?_
      refine ug ?_
      refine Ea H O J9 fun p13 _ H=>tN ?_
      clear H;refine ayJ fun _ H=>?_
      refine Au (Aw (ny ?_))
      refine BI H O (hSm _) (Ym O) fun W1 H=>xA ?_
      refine BI H O (hWh H.only) (afb O) fun W1 H=>aX ?_
      refine Au (AP ?_)
      refine Gu mixed ?_;replace H:=H.drew
      refine dP ?_
      refine ZK 3 O O (FI 74 Ak O O) trivial (ZK 4 O O (FI 74 Ak O O) trivial (ZK 5 O O (FI 74 Ak O O) trivial (ZK 6 O O (FI 74 Ak O O) trivial (ZK 7 O O (FI 74 Ak O O) trivial (Eo 8 O O O (fun _ hS=>Ku (v:= .bool _) O O) trivial (bT ?_))))))
      refine pJ ?_
      clear H;refine ayJ fun _ H=>?_
      refine aV ?_
      exact⟨⟨P,Q,rfl,fun _=>⟨rfl,rfl⟩⟩,H.only⟩
  ·have hp:Ob.pl n d.cache hs a=false:=by unfold Ob.pl;rw[hb,Bz,DC Y];simp
   rw[hp]
   refine BM 87 func137 O (Aw (DU H O O fun p5 _ H=>Ea H O FK fun p8 _ H=>vk ?_))
   refine BI H O (hB _) (WV O) fun W1 H=>bM ?_
   refine AX 25 O (Fz O) (AX 25 O (UN O) (AX 25 O (Ey O underlying128) (AX 25 O (G8 O O Y) (Dp O O (sH ?_)))))
   refine gX ?_
   clear H;refine ayJ fun _ H=>?_
   refine BN O (Au (BH (CX (NJ O (IG H 0 O O O EY DF) (Jp (v:= .bool _) O) ?_))))
   exact⟨⟨0,0,rfl,fun h=>by cases h⟩,H.only⟩
 ·have hp:Ob.pl n d.cache hs a=false:=by unfold Ob.pl;rw[decide_eq_false hin];rfl
  have hbo:JH n a<1:=by unfold JH;split<;>omega
  rw[hp]
  generalize JH n a=bb at*
  refine BM 87 func137 O (Aw (DU H O O fun p5 _ H=>Ea H O FK fun p8 _ H=>vk ?_))
  refine BI H O (hB _) (WV O) fun W1 H=>pz ?_
  refine Cc 25 O O (Cc 25 O O (Cc 25 O O (Cc 25 O O (ED O O (sH ?_)))))
  refine gX ?_
  clear H;refine ayJ fun _ H=>?_
  refine BN O (Au (BH (CX (NJ O (IG H 0 O O O EY DF) (Jp (v:= .bool _) O) ?_))))
  exact⟨⟨0,0,rfl,fun h=>by cases h⟩,H.only⟩
end
end
section
section
open Go.RowKit
section
variable{P:Program}{n:Sz}{f:Nat→Value}{W w0:World}{F:List Nat}{L:List Fp}{dst:Option Tmp}{ty:TypeId}{pos:String}{af:Array Edge}{g:Option (Nat×Bool)}{x:Operand}{t:TypeId}
theorem afA{α:Type}{enc:α→Value}{size p i m c:Nat}{xs:List α}{T:TypeId}{z:α}(H:Heap w0 F L W)(j:Nat)(hx:ev n f x= .pointer (some ⟨p,i,none⟩))(hj:L[j]? =some (Dw size (.slice (some ⟨p,0,none⟩) m c) m (xs.map enc) T))(hv:xs[i]? =some z)
 (hagg:∀W,(isAgg t).run P W= .ok false W):(execOp (ev n f) ⟨dst,.load t x,ty,pos,af,g⟩).run P W= .ok (.value (enc z)) W:=by
 have ho:=H.IK j hj
 have hi:i<xs.length:=(BA.1 hv).1
 have hcell:=ho.cellAt i zD
 rw[BG,hv]at hcell
 exact awk hcell hx hagg
end
theorem Heap.adW{α:Type}{enc:α→Value}{w0 W:World}{F:List Nat}{L:List Fp}{b:Nat}{xs:List α}{T:TypeId}(H:Heap w0 F (vec enc b xs T::L) W)(h0:xs.length≠0):∃rs,Heap w0 F (blk b (xs.map enc++rs) T::L) W:=by
 obtain⟨rs,hr⟩:=H.ok _ (List.mem_cons_self) h0
 refine⟨rs,?_⟩
 have e:ids (blk b (xs.map enc++rs) T::L)=ids (vec enc b xs T::L):=by
  rw[EW,EW]
  show [b]++_=(if xs.length=0 then []else [b])++_
  rw[if_neg h0]
 refine⟨fun E hE=>?_,by rw[e];exact H.nd,by rw[e];exact H.own,H.only⟩
 rcases Dq.1 hE with rfl|h
 ·exact hr
 ·exact H.ok E (Ee _ h)
def hcs(hs:List Ob.H3):List Value:=hs.flatMap Ob.hcell
theorem Pn(a b:List Ob.H3):hcs (a++b)=hcs a++hcs b:=by simp[hcs]
theorem V6:∀l:List Ob.H3,(hcs l).length=l.length*3
 | []=>rfl
 |q::l=>by
  have:=V6 l
  show(Ob.hcell q++hcs l).length=_
  rw[Cm,this];simp[Ob.hcell];omega
theorem acT{l:List Ob.H3}{i:Nat}{q:Ob.H3}(h:l[i]? =some q):l=l.take i++ [q]++l.drop (i+1):=by
 obtain⟨h1,h2⟩:=BA.1 h
 rw[←h2,DI,U8,←Hy h1,F5]
theorem aft{l:List Ob.H3}{rest:List Value}{i:Nat}{q:Ob.H3}(h:l[i]? =some q):((hcs l++rest).drop (i*3)).take 3=Ob.hcell q:=by
 have h1:=(BA.1 h).1
 have hl:(hcs (l.take i)).length=i*3:=by rw[V6,Dy];omega
 have e:hcs l++rest=hcs (l.take i)++(Ob.hcell q++(hcs (l.drop (i+1))++rest)):=by
  conv=>lhs;rw[acT h]
  rw[Pn,Pn];simp[hcs]
 rw[e,NZ hl];rfl
theorem aeN{l:List Ob.H3}{rest:List Value}{i:Nat}(a:Ob.H3)(hi:i<l.length):(hcs l++rest).take (i*3)++Ob.hcell a++(hcs l++rest).drop (i*3+3)=hcs (l.set i a)++rest:=by
 obtain⟨q,h⟩:∃q,l[i]? =some q:=⟨_,Ar hi⟩
 have hl:(hcs (l.take i)).length=i*3:=by rw[V6,Dy];omega
 have e:hcs l++rest=hcs (l.take i)++(Ob.hcell q++(hcs (l.drop (i+1))++rest)):=by
  conv=>lhs;rw[acT h]
  rw[Pn,Pn];simp[hcs]
 have e2:l.set i a=l.take i++ [a]++l.drop (i+1):=by rw[List.set_eq_take_append_cons_drop,if_pos hi];simp
 rw[e,P8 hl,←Nk,NZ hl,e2,Pn,Pn]
 show hcs (l.take i)++Ob.hcell a++(hcs (l.drop (i+1))++rest)=_
 simp[hcs]
theorem amN{l:List Ob.H3}{rest:List Value}{i:Nat}{q:Ob.H3}(h:l[i]? =some q)(j:Nat)(u:Value)(hj:(Ob.hcell q)[j]? =some u):(hcs l++rest)[i*3+j]? =some u:=by
 have hp:=aft (rest:=rest) h
 have hj3:j<3:=by have:=(BA.1 hj).1;simpa [Ob.hcell]using this
 rw[←hp,Et hj3,DV]at hj
 exact hj
theorem aaF(m:Nat):hcs (List.replicate m (0,0,0))=(List.replicate (m*3) (0:Int)).map (Value.int .i64):=by
 induction m with
 |zero=>rfl
 |succ m ih=>
  rw[Fa]
  show Ob.hcell (0,0,0)++hcs (List.replicate m (0,0,0))=_
  rw[ih,show(m+1)*3=m*3+1+1+1 by omega,Fa,Fa,Fa];rfl
def hrow(p:Nat)(hs:List Ob.H3)(rs:List Value):Fp:=blk p (hcs hs++rs) 209
theorem Heap.Yq{w0 W:World}{F:List Nat}{L:List Fp}(H:Heap w0 F L W)(j:Nat){p:Nat}{hs:List Ob.H3}{rs:List Value}(hj:L[j]? =some (hrow p hs rs)):JQ W [] (some ⟨p,0,none⟩) hs:=fun _=>by
 have hb:W.heap[p]? =some (.cells (hcs hs++rs).toArray 209 (0,0)):=H.ok _ (A8 hj)
 refine⟨p,0,rfl,J,fun i h hi k u hk=>?_⟩
 have:=amN (rest:=rs) hi k u hk
 rw[DT]
 show W.cell? _=some u
 rw[Joins.cell_of_block hb]
 simpa using this
end
end
section
section
open Go.RowKit
def flp(l:IL):List Int:=l.flatMap fun q=> [q.1,q.2]
theorem XA(a b:IL):flp (a++b)=flp a++flp b:=by simp[flp]
theorem ZU:∀l:IL,(flp l).length=l.length*2
 | []=>rfl
 |q::l=>by
  have:=ZU l
  show([q.1,q.2]++flp l).length=_
  rw[Cm,this];simp;omega
theorem ai6(a:IL)(q:Int×Int)(b:IL):(flp (a++q::b))[a.length*2]? =some q.1∧(flp (a++q::b))[a.length*2+1]? =some q.2∧∀v,(flp (a++q::b)).set (a.length*2+1) v=flp (a++(q.1,v)::b):=by
 have hl:=ZU a
 have e:flp (a++q::b)=flp a++q.1::q.2::flp b:=by rw[XA];rfl
 rw[e]
 refine⟨by rw[D8 Y,hl,GX];rfl,by rw[D8 Y,hl,show a.length*2+1-a.length*2=1 by omega];rfl,fun v=>?_⟩
 rw[Kq _ _ Y,hl,show a.length*2+1-a.length*2=1 by omega,XA];rfl
theorem arh{l:IL}{i:Nat}{q:Int×Int}(h:l[i]? =some q):(flp l)[i*2]? =some q.1∧(flp l)[i*2+1]? =some q.2:=by
 obtain⟨h1,h2⟩:=BA.1 h
 have e:l=l.take i++q::l.drop (i+1):=by rw[←h2,←Hy h1,F5]
 have hl:(l.take i).length=i:=by rw[Dy];omega
 have:=ai6 (l.take i) q (l.drop (i+1))
 rw[←e,hl]at this
 exact⟨this.1,this.2.1⟩
def UR(hs:List Ob.H3)(i:Int)(b:Int):Prop:=1≤b∧b<i∧∃h,hs[b.toNat]? =some h∧h.1=0
structure UW (hs:List Ob.H3) (i:Nat) (l:IL):Prop where
 ord:l.Pairwise fun p q=>p.1+p.2<q.1
 bd:∀p∈l,1≤p.1∧1≤p.2∧p.1+p.2≤i
 cov:∀b:Int,UR hs i b↔∃p∈l,p.1≤b∧b<p.1+p.2
theorem abp{hs:List Ob.H3}{i:Nat}{h:Ob.H3}(hh:hs[i]? =some h)(hi:1≤i)(b:Int):UR hs (i+1:Nat) b↔UR hs i b∨b=i∧h.1=0:=by
 unfold UR
 constructor
 ·rintro⟨h1,h2,h3,h4,h5⟩
  by_cases e:b=i
  ·subst e
   rw[Bz,hh]at h4
   injection h4 with h4
   subst h4
   exact .inr ⟨rfl,h5⟩
  ·exact .inl ⟨h1,Y,h3,h4,h5⟩
 ·rintro(⟨h1,h2,h3⟩|⟨rfl,h2⟩)
  ·exact⟨h1,Y,h3⟩
  ·exact⟨Y,Y,h,by rw[Bz];exact hh,h2⟩
theorem UW.start(hs:List Ob.H3):UW hs 1 []:=⟨List.Pairwise.nil,J,fun b=>by
 constructor
 ·rintro⟨h1,h2,_⟩;omega
 ·rintro⟨p,hp,_⟩;simp at hp⟩
theorem UW.skip{hs:List Ob.H3}{i:Nat}{l:IL}{h:Ob.H3}(hk:UW hs i l)(hh:hs[i]? =some h)(hi:1≤i)(h0:h.1≠0):UW hs (i+1) l:=
 ⟨hk.ord,fun p hp=>by have:=hk.bd p hp;omega,fun b=>by
  rw[abp hh hi,hk.cov]
  constructor
  ·rintro(h1|⟨_,h1⟩)
   ·exact h1
   ·exact absurd h1 h0
  ·exact .inl⟩
theorem UW.join{hs:List Ob.H3}{i:Nat}{a:IL}{s k:Int}{h:Ob.H3}(hk:UW hs i (a++ [(s,k)]))(hh:hs[i]? =some h)(hi:1≤i)(h0:h.1=0)(he:s+k=i):UW hs (i+1) (a++ [(s,k+1)]):=by
 obtain⟨o1,o2,o3⟩:=Nj.1 hk.ord
 have hb:=hk.bd (s,k) J
 simp only at hb
 refine⟨Nj.2 ⟨o1,J,fun x hx y hy=>?_⟩,fun p hp=>?_,fun b=>?_⟩
 ·have:=o3 x hx (s,k) J
  rw[Bf.1 hy];exact this
 ·rcases BJ.1 hp with hp|hp
  ·have:=hk.bd p (BQ _ hp);omega
  ·rw[Bf.1 hp];simp only;omega
 ·rw[abp hh hi,hk.cov]
  constructor
  ·rintro(⟨p,hp,h1⟩|⟨rfl,_⟩)
   ·rcases BJ.1 hp with hp|hp
    ·exact⟨p,BQ _ hp,h1⟩
    ·rw[Bf.1 hp]at h1
     exact⟨(s,k+1),J,by simp only at h1⊢;omega⟩
   ·exact⟨(s,k+1),J,by simp only;omega⟩
  ·rintro⟨p,hp,h1⟩
   rcases BJ.1 hp with hp|hp
   ·exact .inl ⟨p,BQ _ hp,h1⟩
   ·rw[Bf.1 hp]at h1
    simp only at h1
    by_cases e:b=i
    ·exact .inr ⟨e,h0⟩
    ·exact .inl ⟨(s,k),J,by simp only;omega⟩
theorem UW.new{hs:List Ob.H3}{i:Nat}{l:IL}{h:Ob.H3}(hk:UW hs i l)(hh:hs[i]? =some h)(hi:1≤i)(h0:h.1=0)(hlast:∀(a:IL) (s k:Int),l=a++ [(s,k)]→s+k≠i):UW hs (i+1) (l++ [((i:Int),1)]):=by
 have hend:∀p∈l,p.1+p.2<i:=by
  rcases UY l with rfl|⟨a,⟨s,k⟩,rfl⟩
  ·simp
  ·rw[U7]at*
   have h1:=hlast a s k rfl
   have h2:=hk.bd (s,k) J
   obtain⟨o1,o2,o3⟩:=Nj.1 hk.ord
   intro p hp
   rcases BJ.1 hp with hp|hp
   ·have:=o3 p hp (s,k) J
    simp only at this h2;omega
   ·rw[Bf.1 hp];simp only at h2⊢;omega
 refine⟨Nj.2 ⟨hk.ord,J,fun x hx y hy=>?_⟩,fun p hp=>?_,fun b=>?_⟩
 ·rw[Bf.1 hy];exact hend x hx
 ·rcases BJ.1 hp with hp|hp
  ·have:=hk.bd p hp;omega
  ·rw[Bf.1 hp];simp only;omega
 ·rw[abp hh hi,hk.cov]
  constructor
  ·rintro(⟨p,hp,h1⟩|⟨rfl,_⟩)
   ·exact⟨p,BQ _ hp,h1⟩
   ·exact⟨((i:Int),1),J,by simp only;omega⟩
  ·rintro⟨p,hp,h1⟩
   rcases BJ.1 hp with hp|hp
   ·exact .inl ⟨p,hp,h1⟩
   ·rw[Bf.1 hp]at h1
    simp only at h1
    exact .inr ⟨Y,h0⟩
theorem UW.len{hs:List Ob.H3}{i:Nat}:∀{l:IL},UW hs i l→l.length≤i:=by
 intro l hk
 have h:∀(l:IL) (m:Int),l.Pairwise (fun p q=>p.1+p.2<q.1)→(∀p∈l,m≤p.1∧1≤p.2∧p.1+p.2≤i)→m+l.length≤max m i+0:=by
  intro l
  induction l with
  |nil=>intro m _ _;simp;omega
  |cons p l ih=>
   intro m h1 h2
   obtain⟨h3,h4⟩:=Q9.1 h1
   have h5:=h2 p J
   have:=ih (p.1+p.2) h4 fun q hq=>⟨by have:=h3 q hq;omega,(h2 q (by simp[hq])).2⟩
   simp only[Em]
   omega
 have:=h l 1 hk.ord fun p hp=>hk.bd p hp
 omega
theorem apD(A:Option Addr)(n c:Nat)(hs:List Ob.H3)(w:World)(hS:JQ w [] A hs)(hl:hs.length=n)(hn:n≤10000)(hn1:1≤n):
 Calls prog 243 [.slice A n c].toArray w fun e w'=>∃(A':Option Addr) (c':Nat) (l:IL),e= .returned (.slice A' l.length c')∧UW hs n l∧Heap w [] [Dw 2 (.slice A' l.length c') l.length ((flp l).map (Value.int .i64)) 309] w':=by
 have H:=Heap.nil w
 refine BM 57 func243 O (Aw (En O (Au (Aw (En O (Au (tC ?_)))))))
 replace H:=H.G6 2 309
 refine Ec (fun z f W=>∃(i:Nat) (OA:Option Addr) (oc:Nat) (l:IL),1≤i∧i≤n∧z=n-i∧UW hs i l∧f 0= .slice A n c∧f 3= .slice OA l.length oc∧f 4= .int .i64 i∧Heap w [] [Dw 2 (.slice OA l.length oc) l.length ((flp l).map (Value.int .i64)) 309] W) (n-1) ⟨1,none,0,[],Y,hn1,rfl,UW.start hs,rfl,rfl,rfl,H⟩ ?_
 clear H
 rintro z f W ⟨i,OA,oc,l,hi1,hi,rfl,hk,f0,f3,f4,H⟩
 have hll:=hk.len
 by_cases hin:i<n
 ·obtain⟨h,hh⟩:∃h,hs[i]? =some h:=⟨_,Ar Y⟩
  obtain⟨q,o,rfl,_,hrd⟩:=hS Y
  have c0:=hrd i h hh 0 _ rfl
  obtain⟨f,rfl⟩:=OE f0 f3 f4
  clear f0 f3 f4
  by_cases h0:h.1=0
  ·rcases UY l with rfl|⟨a,⟨s,k⟩,rfl⟩
   ·have hk2:=hk.new hh hi1 h0 (fun a s k e=>by simp at e)
    simp only[Jy]at H⊢
    refine ig ?_
    refine uF ?_
    refine rG ?_
    refine jc ?_
    refine BK (fun _ H=>Ey O underlying262) (BK (fun _ H=>ER O O Y) (BK (fun _ H=>BP (v:= .bool _) O) (iV ?_)))
    refine iV ?_
    refine iV ?_
    refine iV ?_
    refine Ip O (FI 27 Ak O O) (BK (fun _ H=>Ku (v:= .bool _) O O) (BK (fun _ H=>DJ (v:= .bool _) O) (H8 ?_)))
    clear H;intro _ H
    refine qL ?_
    intro q9 _ H';clear H;have H:=H';clear H'
    refine KX (enc:=(Value.int .i64)) (size:=2) H 0 O O O O (fun _=>rfl) Y Y underlying262 aaZ O ?_
    clear H;intro A2 c2 _ H;simp only[Bv,Nat.reduceAdd]at H
    refine En O (AA (Dh (jy ?_)))
    exact⟨_,_,Y,rfl,i+1,A2,c2,[((i:Int),1)],Y,Y,rfl,hk2,rfl,rfl,rfl,H⟩
   ·rw[U7]at*
    have hal:(a++ [(s,k)]).length=a.length+1:=by simp
    obtain⟨p,rfl⟩:=H.JC 0 rfl Y
    obtain⟨m1,m2,m3⟩:=ai6 a (s,k) []
    have hb:=hk.bd (s,k) J
    simp only at hb m1 m2
    by_cases he:s+k=i
    ·have hk2:=hk.join hh hi1 h0 he
     have hal2:(a++ [(s,k+1)]).length=a.length+1:=by simp
     rw[hal]at H hll⊢
     refine ig ?_
     refine uF ?_
     refine rG ?_
     refine jc ?_
     refine bK ?_
     refine GN 27 O (fun _ H=>Fv O O Y) (uV ?_)
     refine BK (fun _ H=>DJ (v:= .bool _) O) (H8 ?_)
     clear H;intro _ H
     refine AO (EI O (DR (CY O (CY O (Di O underlying262 (nK ?_))))))
     refine AL (PS (i:=a.length) O O Y Y underlying262 XR) (AL (JV O Yn) (AL (afA H 0 O O m2 GU) (dI ?_)))
     refine AL (PS (i:=a.length) O O Y Y underlying262 XR) (AL (JV O Yn) ?_)
     refine axE (enc:=Value.int .i64) H 0 O O O O O (by rw[ZU,hal];omega) O Kz ?_
     clear H;refine ayJ fun _ H=>?_
     refine AA (Dh (jy ?_))
     rw[m3]at H
     exact⟨_,_,Y,rfl,i+1,some ⟨p,0,none⟩,oc,a++ [(s,k+1)],Y,Y,rfl,hk2,rfl,by rw[hal2];rfl,rfl,by rw[hal2];exact H⟩
    ·have hk2:=hk.new hh hi1 h0 (fun a' s' k' e=>by
      have e2:=List.append_inj_right' e rfl
      injection e2 with e2
      injection e2 with e3 e4
      rw[←e3,←e4];exact he)
     have hal3:(a++ [(s,k)]++ [((i:Int),1)]).length=a.length+1+1:=by simp
     rw[hal]at H hll⊢
     refine ig ?_
     refine uF ?_
     refine rG ?_
     refine jc ?_
     refine bK ?_
     refine GN 27 O (fun _ H=>Fb O O Y) (uV ?_)
     refine BK (fun _ H=>DJ (v:= .bool _) O) (H8 ?_)
     clear H;intro _ H
     refine qL ?_
     intro q9 _ H';clear H;have H:=H';clear H'
     refine KX (enc:=(Value.int .i64)) (size:=2) H 0 O O O O (fun _=>rfl) Y Y underlying262 aaZ O ?_
     clear H;intro A2 c2 _ H;simp only[Bv,Nat.reduceAdd]at H
     refine En O (AA (Dh (jy ?_)))
     have e4:flp (a++ [(s,k)])++ [(i:Int),1]=flp (a++ [(s,k)]++ [((i:Int),1)]):=by rw[XA (a++ [(s,k)])];rfl
     rw[e4]at H
     exact⟨_,_,Y,rfl,i+1,A2,c2,_,Y,Y,rfl,hk2,rfl,by rw[hal3];rfl,rfl,by rw[hal3];exact H⟩
  ·have hk2:=hk.skip hh hi1 h0
   refine ig ?_
   refine AL (Hl O O Y) (BN O (Au (EI O (Bj (Dh (jy ?_))))))
   exact⟨_,_,Y,rfl,i+1,OA,oc,l,Y,Y,rfl,hk2,rfl,rfl,rfl,H⟩
 ·obtain rfl:i=n:=Y
  obtain⟨f,rfl⟩:=OE f0 f3 f4
  clear f0 f3 f4
  refine fJ ?_
  refine oI ?_
  refine kH ?_
  refine Aw (CY O (oZ ?_))
  exact⟨OA,oc,l,rfl,hk,H⟩
end
end
section
section
open Go.RowKit
def ap7(w:World)(F:List Nat)(A:Option Addr)(l:IL):Prop:=l.length≠0→∃b o,A=some ⟨b,o,none⟩∧b∉F∧∀i q,l[i]? =some q→Reads (fun v:Value=>v) w b (o+i*2) [.int .i64 q.1,.int .i64 q.2]
theorem Heap.acI{w0 W:World}{F:List Nat}{L:List Fp}(H:Heap w0 F L W)(j:Nat){A:Option Addr}{c:Nat}{l:IL}{T:TypeId}(hj:L[j]? =some (Dw 2 (.slice A l.length c) l.length ((flp l).map (Value.int .i64)) T)):ap7 W [] A l:=fun h0=>by
 obtain⟨b,e,_,hr⟩:=H.LZ j hj (by rw[ZU];omega)
 refine⟨b,0,e,J,fun i q hi k u hk=>?_⟩
 obtain⟨h1,h2⟩:=arh hi
 match k,hk with
 |0,hk=>
  injection hk with hk
  have:=hr _ _ h1
  rw[DT]at this⊢
  rw[←hk];exact this
 |1,hk=>
  injection hk with hk
  have:=hr _ _ h2
  rw[DT]at this⊢
  rw[←hk];exact this
theorem anN(n:Nat)(A:Option Addr)(c:Nat)(hs:List Ob.H3)(l:IL)(w:World)(hS:ap7 w [] A l)(hk:UW hs n l)(hn:n≤10000):
 Calls prog 180 [.int .i64 n,.slice A l.length c].toArray w fun e w'=>∃p bS bE S E,e= .returned (.tuple #[YS p,.int .i64 0])∧Rn.Ok S E n (UR hs n)∧Heap w [] (SC p bS bE S E n) w':=by
 have H:=Heap.nil w
 have hll:=hk.len
 refine BM 29 func180 O (Aw (EX O (oG ?_)))
 refine s_call O (auc n _ Y) (ato O) ?_
 rintro e W1 ⟨p,bS,bE,rfl,H'⟩
 refine⟨_,rfl,?_⟩
 have H:=H.more H';clear H';simp only[Du]at H
 refine EX O (Au (AP (Aw (CY O (Di O underlying262 (tV ?_))))))
 refine Ec (fun z f W=>∃(i:Nat) (S E:IL),i≤l.length∧z=l.length-i∧Rn.Ok S E n (fun b=>∃p∈l.take i,p.1≤b∧b<p.1+p.2)∧f 6=YS p∧f 12= .slice A l.length c∧f 13= .int .i64 l.length∧f 14= .int .i64 i∧Heap w [] (SC p bS bE S E n) W) l.length ⟨0,[],[],Y,rfl,(Rn.Ok.nil n).congr (fun b=>by simp),rfl,rfl,rfl,rfl,H⟩ ?_
 clear H
 rintro z f W ⟨i,S,E,hi,rfl,hO,f6,f12,f13,f14,H⟩
 by_cases hil:i<l.length
 ·obtain⟨q,hq⟩:∃q,l[i]? =some q:=⟨_,Ar hil⟩
  obtain⟨b,o,rfl,_,hrd⟩:=hS Y
  have hr:=hrd i q hq
  have hb:=hk.bd q (A8 hq)
  have hf:∀b,q.1≤b→b<q.1+q.2→¬∃p∈l.take i,p.1≤b∧b<p.1+p.2:=fun b h1 h2 ⟨x,hx,h3,h4⟩=>by
   obtain⟨j,hj,e⟩:=DY.1 hx
   rw[Dy]at hj
   obtain⟨g1,g2⟩:=BA.1 hq
   have:=Hu.1 hk.ord j i Y g1 Y
   rw[OD]at e
   rw[e,g2]at this
   omega
  have heq:∀b,(∃p∈l.take i,p.1≤b∧b<p.1+p.2)∨q.1≤b∧b<q.1+q.2↔∃p∈l.take (i+1),p.1≤b∧b<p.1+p.2:=fun b=>by
   rw[←Jc hq]
   constructor
   ·rintro(⟨p,hp,h⟩|h)
    ·exact⟨p,BQ _ hp,h⟩
    ·exact⟨q,J,h⟩
   ·rintro⟨p,hp,h⟩
    rcases BJ.1 hp with hp|hp
    ·exact .inl ⟨p,hp,h⟩
    ·rw[Bf.1 hp]at h;exact .inr h
  obtain⟨f,rfl⟩:=Ih f6 f12 f13 f14
  clear f6 f12 f13 f14
  refine ak ?_
  refine AL (JY (i:=i) O O Y Y underlying262 XR) (AL (SB (enc:=fun v:Value=>v) (zs:=[.int .i64 q.1,.int .i64 q.2]) (hr.later H.only J) O O at6 XR) (Ea H O aaZ fun p8 _ H=>Ov H 0 O O O O O O O XR ?_))
  clear H;refine ayJ fun _ H=>?_
  refine Au (Aw (BF O (BR O aeE (mQ ?_))))
  refine BR O Yn (mQ ?_)
  refine s_call O (arU H.drop.ents hO Y q.1 q.2 Y hf) (aug O) ?_
  rintro e W1 ⟨rfl,S2,E2,hO2,H'⟩
  refine⟨_,rfl,?_⟩
  have H:=H.drop.step (A:=SC p bS bE S E n) (L:=[]) H' (fun i hi=>hi);clear H';simp only[Du]at H
  refine vY ?_
  exact⟨_,_,Y,rfl,i+1,S2,E2,Y,rfl,hO2.congr heq,rfl,rfl,rfl,rfl,H⟩
 ·obtain rfl:i=l.length:=Y
  rw[DL]at hO
  obtain⟨f,rfl⟩:=Ih f6 f12 f13 f14
  clear f6 f12 f13 f14
  refine uS ?_
  refine BF O (qZ ?_)
  exact⟨p,bS,bE,S,E,rfl,hO.congr fun b=>(hk.cov b).symm,H⟩
end
end
section
section
structure Dv (d:Nv.D) (m:Nat):Prop where
 I:Nv.Inv d m
 L:Nv.Live d
 U:Ob.SQ d.cache
theorem Dv.len{d:Nv.D}{m:Nat}(h:Dv d m):d.cache.length=8*m:=h.I.ok.hc
def Un(d:Nv.D)(j:Nat):Bool:=d.dirty.getD j false
theorem aok{c:List Int}(h:Ob.SQ c)(a:Nat){v:Int}(hv:0≤v∧v≤18446744073709551615):Ob.SQ (c.set a v):=fun x hx=>by
 rcases E5 hx with h1|rfl
 ·exact h x h1
 ·exact hv
theorem an1{c:List Int}{a:Nat}(ha:a<c.length)(v:Int)(x:Int):Nv.get (c.set a v) x=if x=a then v else Nv.get c x:=by
 unfold Nv.get
 rw[He]
 by_cases h:0≤x∧x<(c.length:Int)
 ·rw[if_pos h,if_pos h,Ba,Ei,Ba]
  by_cases e:x=a
  ·subst e
   rw[if_pos Y,if_pos Y,if_pos rfl];rfl
  ·rw[if_neg Y,if_neg e]
 ·rw[if_neg h,if_neg h,if_neg Y]
structure Sto (d d':Nv.D) (m a:Nat) (v:Int):Prop where
 D:Dv d' m
 c:d'.cache=d.cache.set a v
 k:∀j,j≠a/8→Un d' j=Un d j
theorem Dv.store{d:Nv.D}{m:Nat}(h:Dv d m){a:Nat}(ha:a<8*m){v:Int}(hv:0≤v∧v≤18446744073709551615):(Nv.store d m a v).2=0∧Sto d (Nv.store d m a v).1 m a v:=by
 have e:=Nv.Xh h.L ha v
 have hI:=h.I.store (a:Int) v
 rw[e]at hI⊢
 refine⟨rfl,⟨hI,(h.L.stepped).put a v,aok h.U a hv⟩,rfl,fun j hj=>?_⟩
 show(d.dirty.set (a/8) true).getD j false=d.dirty.getD j false
 rw[Ba,Ei,if_neg (fun e=>hj e.symm),←Ba]
structure Per (d d':Nv.D) (m a n:Nat):Prop where
 D:Dv d' m
 c:d'.cache=d.cache
 k:∀j,Un d j=false→Un d' j=false
 q:∀x,a≤x→x<a+n→Un d' (x/8)=false
theorem Dv.persist{d:Nv.D}{m:Nat}(h:Dv d m){a n:Nat}(ha:a+n≤8*m):(Nv.persist d m a n).2=0∧Per d (Nv.persist d m a n).1 m a n:=by
 obtain⟨h1,h2,h3⟩:=Nv.XM h.L ha
 refine⟨h1,⟨h.I.persist _ _,h2,by rw[h3];exact h.U⟩,h3,fun j hj=>?_,fun x hx1 hx2=>(Nv.SI h.I h1 x Y Y).2⟩
 have hl:Nv.Ln d j (fun x=>d.cache.getD x 0):=⟨hj,fun _ _=>rfl⟩
 exact(hl.persist h.I _ _).cl
end
end
section
section
open Go.RowKit
def RI(a:Int):Prop:= -9223372036854775808≤a∧a≤9223372036854775807
theorem avj:laidOutB prog=true:=by kernel_rfl
theorem arC:Go.Maps.Keyed prog 333:=Go.Maps.Keyed.of_law (deep_law_laid avj (m:=2) Y (of_decide_eq_true Ak) Ak (by rw[underlying333]))
def kE:KC prog 333 (Int×Int):=
 ⟨fun a=> .agg [.int .i64 a.1,.int .i64 a.2].toArray,fun a=>RI a.1∧RI a.2,arC,fun a ha=>Zr Ak Ak underlying3 underlying3 Ak Ak Ak Ak ⟨prog.types.size-1,by kernel_rfl⟩ (wf_i64 ha.1) (wf_i64 ha.2),fun a b=>afr⟩
def kT:KC prog 3 Int:=kI prog 3 underlying3
def Q5(l:List Int):List (Int×Bool):=l.map fun a=>(a,true)
theorem ajm{l:List Int}{a:Int}(h:a∈l):Ij (Q5 l) a=some true:=by
 cases hm:Ij (Q5 l) a with
 |none=>
  have:=(J8 _ _).1 hm (a,true) (BX.2 ⟨a,h,rfl⟩)
  exact absurd rfl this
 |some v=>
  have:∀(l:List Int),Ij (Q5 l) a=some v→v=true:=fun l=>by
   induction l with
   |nil=>intro h;cases h
   |cons x l ih=>
    intro h
    unfold Q5 at h
    rw[Dx,Ij]at h
    split at h
    ·injection h with h;exact h.symm
    ·exact ih h
  rw[this l hm]
theorem agF{l:List Int}{a:Int}(h:a∉l):Ij (Q5 l) a=none:=(J8 _ _).2 fun p hp e=>by
 obtain⟨x,hx,rfl⟩:=BX.1 hp
 exact h (by rw[←e];exact hx)
theorem akb{l:List Int}{a:Int}(h:a∉l):Lp (Q5 l) a true=Q5 (l++ [a]):=by
 rw[(VH (Q5 l) a (fun p hp e=>by obtain⟨x,hx,rfl⟩:=BX.1 hp;exact h (by rw[←e];exact hx))).2.1 true]
 simp[Q5]
theorem DW.off{A B:List Fp}{w W:World}(h:DW [grp A,grp B] w)(hO:Only (ids B) w W):DW A W:=by
 have h1:=(Heap.start h).ents
 have hnd:=h.2
 rw[EW,EW]at hnd
 obtain⟨_,_,dis⟩:=CS.1 hnd
 have hA:DW A w:=h.1 (grp A) J
 refine⟨fun E hE=>E.loc w W (fun i hi=>?_) (hA.1 E hE),hA.2⟩
 have hm:i∈(grp A).ids:=KG.2 ⟨E,hE,hi⟩
 refine hO.block i (E.lt w (hA.1 E hE) i hi) fun hf=>?_
 exact dis i hm i (BQ _ hf) rfl
theorem DW.snd{A B:List Fp}{w:World}(h:DW [grp A,grp B] w):DW B w:=h.1 (grp B) J
def Qr(g:Geo)(n:Nat)(A:Option Addr)(k c p bs bb:Nat)(OA:Option Addr)(oc:Nat)(s:Tr.S):List Fp:=
 [blk p [ptr g.p,.int .i64 n,.slice A k c,.map (some bs),.slice OA s.op.length oc,.map (some bb)] 330,mp kT Value.bool bs (Q5 s.seen),Dw 1 (.slice OA s.op.length oc) s.op.length (s.op.map (Value.int .i64)) 3,mp kE (Value.int .i64) bb s.bad]
section
variable{g:Geo}{d:Nv.D}{n k c p bs bb oc:Nat}{A OA:Option Addr}{hs:List Ob.H3}{s:Tr.S}{w:World}
theorem ajc(hE:DW [grp (Dz g d),grp (Qr g n A k c p bs bb OA oc s)] w)(hw:Ob.SQ d.cache)(hl:d.cache.length≤1000000000)(hS:JQ w (ids (Qr g n A k c p bs bb OA oc s)) A hs)(hk:hs.length=k)(hk2:k≤1000000)(hW:hsW hs)(hn:n≤1000000)(ho:s.op.length≤1000000)(e1 e2 a:Int)(he1:RI e1)(he2:RI e2)(ha:RI a):
 Calls prog 272 [ptr p,.agg [.int .i64 e1,.int .i64 e2].toArray,.int .i64 a].toArray w fun e w'=>e= .returned (.int .i64 (Tr.code (Ob.pl n d.cache hs) s a))∧∃OW oc',Heap w (ids (Qr g n A k c p bs bb OA oc s)) (Qr g n A k c p bs bb OW oc' (Tr.reach (Ob.pl n d.cache hs) s (e1,e2) a)) w':=by
 have axg:=fun{W:World} (h:Only (ids (Qr g n A k c p bs bb OA oc s)) w W)=>hE.off h
 have hS2:=fun{W:World} (h:Only (ids (Qr g n A k c p bs bb OA oc s)) w W)=>(hS.later h (fun _ h=>h)).mono (G:=[]) J
 have H:=Heap.start hE.snd
 generalize hI:ids (Qr g n A k c p bs bb OA oc s)=I at*
 have gda:kT.Gd a:=ha
 unfold Tr.code Tr.reach
 by_cases h0:a=0
 ·rw[if_pos (.inl h0),if_pos (.inl h0)]
  unfold Qr at H
  refine BM 59 func272 O (Aw (DU H O O fun p4 _ H=>jk ?_))
  refine AL (Fv O O Y) (BL O (Cc 11 O O (Cc 11 O O (Cc 11 O O (Cc 11 O O (Cc 11 O O (Cc 11 O O (ED O O (fV ?_)))))))))
  exact⟨rfl,OA,oc,H.drop⟩
 ·by_cases hm:a∈s.seen
  ·rw[if_pos (.inr hm),if_pos (.inr hm)]
   have hg:=ajm hm
   unfold Qr at H
   refine BM 59 func272 O (Aw (DU H O O fun p4 _ H=>qp ?_))
   refine AX 11 O (TF H 2 O O O (gda) (hg) underlying327 (JL Nl) O) (Dp O O (fV ?_))
   exact⟨rfl,OA,oc,H.drop⟩
  ·have hno:¬(a=0∨a∈s.seen):=fun h=>h.elim h0 hm
   rw[if_neg hno,if_neg hno]
   have hg:=agF hm
   have hP:=fun{W:World} (h:Only I w W)=>abA (axg h) hw hl A k c hs (hS2 h) hk hk2 hW n hn a ha
   generalize Ob.pl n d.cache hs a=b at*
   unfold Qr at H
   refine BM 59 func272 O (Aw (DU H O O fun p4 _ H=>qp ?_))
   refine AX 11 O (aqk H 2 O O O (gda) (hg) underlying327 (JL Nl)) (fE ?_)
   refine AP (AP ?_)
   refine Jj (fun f W=>f 0=ptr p∧f 2= .int .i64 a∧f 4=ptr p4∧f 6= .int .i64 0∧f 8= .bool b∧Heap w I [blk p4 [.int .i64 e1,.int .i64 e2] 333,blk p [ptr g.p,.int .i64 n,.slice A k c,.map (some bs),.slice OA s.op.length oc,.map (some bb)] 330,mp kT Value.bool bs (Q5 s.seen),Dw 1 (.slice OA s.op.length oc) s.op.length (s.op.map (Value.int .i64)) 3,mp kE (Value.int .i64) bb s.bad] W) ?_ ?_
   ·refine acA (A:=[_]) mixed H [1] O ?_;replace H:=H.drew
    refine vO ?_
    refine Dj 2 O O O (fun _ hS=>CB O aiU) (H.Ew [1] O O) (Dj 3 O O O (fun _ hS=>Ef hS 0 O O O Kt) (H.Ew [1] O O) (vN ?_))
    refine Dj 6 O O O (fun _ hS=>CB O aoB) (H.Ew [1] O O) (Dj 7 O O O (fun _ hS=>JU (vs:=[.int .i64 n]) hS 0 O O O O H6 G5) (H.Ew [1] O O) (vM ?_))
    refine Dj 10 O O O (fun _ hS=>CB O apu) (H.Ew [1] O O) (Dj 11 O O O (fun _ hS=>Ef hS 0 O O O Vo) (H.Ew [1] O O) (Dj 12 O O O (fun _ hS=>BP (v:= .int _ _) O) (H.Ew [1] O O) ?_))
    refine D6 13 17 ?_ ?_
    ·refine BO O (s_call O (hP H.only) (afo O) ?_)
     rintro e W1 ⟨⟨P0,D0,rfl,_⟩,H'⟩
     refine⟨_,rfl,?_⟩
     have H:=H.same H';clear H'
     refine jX ?_
     refine Bd 17 O (Ea H O FK fun p7 _ H=>AA (Bc (H.Ew [2] O O) (Bd 18 O (gX ?_))))
     clear H;refine ayJ fun _ H=>?_
     refine AA (Bc (H.Ew [2] O O) (Dj 19 O O O (fun _ hS=>DJ (v:= .bool _) O) (H.Ew [2] O O) (CJ (Dt ?_))))
     exact⟨rfl,rfl,rfl,rfl,rfl,H.drop⟩
    ·refine BO O (Ea H O FK fun p7 _ H=>AA (Bc (H.Ew [2] O O) (Bd 13 O (s_call O (hP H.only) (afo O) ?_))))
     rintro e W1 ⟨⟨P0,D0,rfl,_⟩,H'⟩
     refine⟨_,rfl,?_⟩
     have H:=H.same H';clear H'
     refine AA (Bc (H.Ew [2] O O) (Dj 14 O O O (fun _ hS=>BP (v:= .tuple _) O) (H.Ew [2] O O) (Dj 15 O O O (fun _ hS=>CG (v:= .agg _) O O) (H.Ew [2] O O) (Dj 16 O O O (fun _ hS=>CG (v:= .bool _) O O) (H.Ew [2] O O) (Bd 18 O (gX ?_))))))
     clear H;refine ayJ fun _ H=>?_
     refine AA (Bc (H.Ew [2] O O) (Dj 19 O O O (fun _ hS=>DJ (v:= .bool _) O) (H.Ew [2] O O) (CJ (Dt ?_))))
     exact⟨rfl,rfl,rfl,rfl,rfl,H.drop⟩
   clear H
   rintro f W ⟨f0,f2,f4,f6,f8,H⟩
   obtain⟨f,rfl⟩:=Lr f0 f2 f4 f6 f8
   clear f0 f2 f4 f6 f8
   cases b with
   |true=>
    rw[if_pos rfl,if_pos rfl]
    refine AO (Aw (BL O (gK ?_)))
    refine eY ?_
    refine BR O ZV (BD H 1 O O O ajd (Az O (U6 (q:=true) H 2 O O O O O (gda) underlying327 ?_)))
    clear H;refine ayJ fun _ H=>?_
    refine Au (Aw (BF O (BF O (Dl O (BR O Qu (BD H 1 O O O Fg (Az O (O7 (enc:=(Value.int .i64)) H 3 O O O O O O O Y underlying22 GI O ?_))))))))
    clear H;intro _ An cn _ H;simp only[Bv,Nat.reduceAdd]at H
    refine Dl O (BR O Qu (Ic (u:= .slice _ _ _) H 1 O O O O O O Lh ?_))
    clear H;refine ayJ fun _ H=>?_
    refine xX ?_
    have hle:(s.op++ [a]).length=s.op.length+1:=by simp
    rw[akb hm,←hle]at H
    exact⟨rfl,_,_,H.drop⟩
   |false=>
    rw[if_neg J,if_neg J]
    refine AO (Aw (BL O (AL (Jm O) (Au (EI O (AP (abM 6 mixed Ak H O O (aP ?_))))))))
    refine BK (fun _ H=>CB O adI) (BK (fun _ H=>Ef H 1 O O O alf) (BK (fun _ H=>Je H 0 O O O av3 awo) (eG ?_)))
    refine H8 ?_
    clear H;intro _ H
    refine U6 H 4 O O O O O ((show kE.Gd (e1,e2)from⟨he1,he2⟩)) underlying328 ?_
    clear H;refine ayJ fun _ H=>?_
    refine Au (Aw (oL ?_))
    refine aQ ?_
    exact⟨rfl,OA,oc,H.drop⟩
end
end
end
section
section
open Go.RowKit
theorem Heap.awR{w0 W:World}{F:List Nat}{L:List Fp}{E:Fp}(H:Heap w0 F L W)(k:Nat)(hk:L[k]? =some E):DW [E] W:=Heap.part (A:=[E]) (H.pick k hk)
theorem DW.on{A B L:List Fp}{w W:World}(h:DW [grp A,grp B] w)(H:Heap w (ids B) L W):DW (grp A::L) W:=by
 have hA:=h.off H.only
 have hnd:=h.2
 rw[EW,EW]at hnd
 obtain⟨hn1,_,dis⟩:=CS.1 hnd
 refine⟨fun E hE=>?_,?_⟩
 ·rcases Dq.1 hE with rfl|h1
  ·exact hA
  ·exact H.ok E h1
 ·rw[EW,CS]
  refine⟨hn1,H.nd,fun i hi j hj e=>?_⟩
  subst e
  rcases H.own i hj with h1|h1
  ·exact dis i hi i (BQ _ h1) rfl
  ·have:=(grp A).lt w (h.1 (grp A) J) i hi
   omega
theorem DW.two{A B:Fp}{L:List Fp}{W:World}(h:DW (A::L) W)(k:Nat)(hk:L[k]? =some B):DW [A,B] W:=by
 have h1:=Heap.start h
 have h2:=(h1.pick (k+1) (by simpa using hk)).pick 1 rfl
 exact Heap.part (A:=[A,B]) h2
theorem JQ.on{w W:World}{I K:List Nat}{L:List Fp}{A:Option Addr}{hs:List Ob.H3}(h:JQ w K A hs)(H:Heap w I L W)(hIK:∀i∈I,i∈K):JQ W (K++ids L) A hs:=fun h0=>by
 obtain⟨b,o,e,hb,hr⟩:=h h0
 have hlt:b<w.heap.size:=by
  obtain⟨x,hx⟩:∃x,hs[0]? =some x:=⟨_,Ar Y⟩
  exact cell_lt (hr 0 x hx 0 _ rfl)
 refine⟨b,o,e,fun hm=>?_,fun i x hi=>(hr i x hi).later H.only (fun hm=>hb (hIK b hm))⟩
 rcases BJ.1 hm with h1|h1
 ·exact hb h1
 ·rcases H.own b h1 with h2|h2
  ·exact hb (hIK b h2)
  ·omega
theorem ae9{n:Nat}{c:List Int}{hs:List Ob.H3}{s:Tr.S}(h:Tr.Ok (Ob.pl n c hs) s):s.op.length≤512*n∧s.seen.length≤512*n:=by
 have hp:∀x∈s.seen,0≤x∧x<((512*n:Nat):Int):=fun x hx=>by
  have:=Ob.L8 (h.pl x hx);omega
 exact⟨Tr.QF _ _ h.aio (fun x hx=>hp x (h.sub x hx)),Tr.QF _ _ h.nd hp⟩
theorem atW(g:Geo)(n:Nat)(A:Option Addr)(k c:Nat)(w:World):
 Calls prog 237 [ptr g.p,.agg [.int .i64 n].toArray,.slice A k c].toArray w fun e w'=>∃p bs bb,e= .returned (ptr p)∧Heap w [] (Qr g n A k c p bs bb none 0 Tr.s0) w':=by
 have H:=Heap.nil w
 refine BM 14 func237 O (Aw (DU H O O fun p4 _ H=>EX O (Au (Aw (BF O (qR ?_))))))
 refine CY O (agR kT Value.bool H O ?_)
 intro b1 _ H';clear H;have H:=H';clear H'
 refine agR kE (Value.int .i64) H O ?_
 intro b2 _ H';clear H;have H:=H';clear H'
 refine AL (FP (ZF _ _ _ _ _ _ _) O) (DU H O O fun p13 _ H=>uq ?_)
 replace H:=H.G6 1 3
 exact⟨p13,b1,b2,rfl,Heap.Ew H [1,3,0,2] rfl rfl⟩
section
variable{g:Geo}{d:Nv.D}{n k c p bs bb oc:Nat}{A OA:Option Addr}{hs:List Ob.H3}{s:Tr.S}{w:World}{K:List Nat}
theorem atd(hE:DW [grp (Dz g d),grp (Qr g n A k c p bs bb OA oc s)] w)(hw:Ob.SQ d.cache)(hl:d.cache.length≤1000000000)(hS:JQ w (ids (Qr g n A k c p bs bb OA oc s)) A hs)(hk:hs.length=k)(hk2:k≤1000000)(hW:hsW hs)(hn:n≤1900)(hok:Tr.Ok (Ob.pl n d.cache hs) s)(a:Int)(ha:RI a):
 Calls prog 238 [ptr p,.int .i64 a].toArray w fun e w'=>e= .returned (.int .i64 (Tr.code (Ob.pl n d.cache hs) s a))∧∃OW oc',Heap w (ids (Qr g n A k c p bs bb OA oc s)) (Qr g n A k c p bs bb OW oc' (Tr.reach (Ob.pl n d.cache hs) s (-1,0) a)) w':=by
 have hln:=ae9 hok
 have hR:=ajc hE hw hl hS hk hk2 hW Y Y (-1) 0 a ⟨Y,Y⟩ ⟨Y,Y⟩ ha
 have H:=GZ hE.snd
 generalize hI:ids (Qr g n A k c p bs bb OA oc s)=I at*
 refine BM 9 func238 O (Aw (nV ?_))
 refine AL (FP (an7 _) O) (Az O (s_call O (hR) (aqS O) ?_))
 rintro e W1 ⟨rfl,OW,oc',H'⟩
 refine⟨_,rfl,?_⟩
 rw[←hI]at H';have H:=H.DN 0 rfl H';clear H';simp only[Bv]at H
 refine fH ?_
 exact⟨rfl,OW,oc',Iw H⟩
theorem apb(hE:DW (Qr g n A k c p bs bb OA oc s) w)(h0:s.op=[]):
 Calls prog 273 [ptr p].toArray w fun e w'=>e= .returned (.bool false)∧Only [] w w':=by
 have HR:=Heap.start hE
 have H:=Heap.nil w
 unfold Qr at HR
 rw[h0,Jy]at HR
 refine BM 63 func273 O (qU ?_)
 refine AP (eY ?_)
 refine BR O Qu (BD (HR.same H.only) 0 O O O Fg (eU ?_))
 refine AL (Fv O O Y) (iD ?_)
 exact⟨rfl,H.only⟩
theorem asL(hE:DW [grp (Dz g d),grp (Qr g n A k c p bs bb OA oc s)] w)(hw:Ob.SQ d.cache)(hl:d.cache.length≤1000000000)(hS:JQ w K A hs)(hIK:∀i∈ids (Qr g n A k c p bs bb OA oc s),i∈K)(hk:hs.length=k)(hk2:k≤1000000)(hW:hsW hs)(hn:n≤1900)(hok:Tr.Ok (Ob.pl n d.cache hs) s)(h0:s.op≠[]):
 Calls prog 273 [ptr p].toArray w fun e w'=>e= .returned (.bool true)∧∃OW oc',Heap w (ids (Qr g n A k c p bs bb OA oc s)) (Qr g n A k c p bs bb OW oc' (Tr.step (Ob.pl n d.cache hs) (Ob.ptrs d.cache) s)) w':=by
 have WM:=fun{L:List Fp} {W:World} (H:Heap w (ids (Qr g n A k c p bs bb OA oc s)) L W)=>hE.on H
 have hS2:=fun{L:List Fp} {W:World} (H:Heap w (ids (Qr g n A k c p bs bb OA oc s)) L W)=>hS.on H hIK
 have hDO:=fun{W:World} (h:Only (ids (Qr g n A k c p bs bb OA oc s)) w W)=>hE.off h
 have H:=Heap.start hE.snd
 have hln:=ae9 hok
 generalize hI:ids (Qr g n A k c p bs bb OA oc s)=I at*
 have hpos:=Gn.2 h0
 obtain⟨y,hy⟩:∃y,s.op[s.op.length-1]? =some y:=⟨_,Ar Y⟩
 have hyt:Tr.top s=y:=by unfold Tr.top;rw[Ba,hy];rfl
 have hyp:=Ob.L8 (hok.pl y (hok.sub y (A8 hy)))
 have hPt:=fun{W:World} (h:Only I w W)=>amD (hDO h) hw hl y hyp.2.2
 have hpb:=Ob.aaj hw y
 unfold Tr.step
 rw[hyt]
 generalize hPL:Ob.ptrs d.cache y=l at*
 have hll:l.length≤63:=by
  rw[←hPL];unfold Ob.ptrs;rw[Ob.Oe];have:=Ob.NG hw y;omega
 unfold Qr at H
 cases OA with
 |none=>
  exfalso
  obtain⟨q,hq⟩:=H.JC 2 rfl Y
  cases hq
 |some oa=>
 obtain⟨q,hq⟩:=H.JC 2 rfl Y
 injection hq with hq
 subst hq
 have hcap:=Yw H 2 rfl
 refine BM 63 func273 O (qU ?_)
 refine AP (eY ?_)
 refine BR O Qu (iQ ?_)
 refine mD ?_
 refine rG ?_
 refine aP ?_
 refine kZ ?_
 refine BK (fun _ H=>FC (i:=(s.op.length-1)) O O Y Y underlying22 Kz) (BK (fun _ H=>L9 H 2 O O hy GU) (vW ?_))
 refine H8 ?_
 clear H;intro _ H
 refine AO (AP (abM 14 mixed Ak H O O (iU ?_)))
 refine kZ ?_
 refine BK (fun _ H=>Y1 (j:=s.op.length-1) O O Y Y underlying22 Kz) (BK (fun _ H=>ES O) (BK (fun _ H=>CB O Qu) (H8 ?_)))
 clear H;intro _ H
 refine wB ?_
 clear H;refine ayJ fun _ H=>?_
 refine Au (AP ?_)
 replace H:=H.adV (m:=s.op.length-1) 2 rfl Y
 rw[Jh,←NU]at H
 have hpl:(s.op.take (s.op.length-1)).length=s.op.length-1:=by rw[Dy];omega
 replace H:Heap w I [grp (Qr g n A k c p bs bb (some ⟨q,0,none⟩) oc (Tr.pop s))] _:=Hw (by
  unfold Qr Tr.pop
  simp only[hpl]
  exact H)
 refine sN ?_
 refine BR O aiU (BD (Heap.start (H.Bl 0 O)) 0 O O O Kt (Az O (s_call O (hPt H.only) (aqG O) ?_)))
 rintro e W1 ⟨QA,qc,rfl,H'⟩
 refine⟨_,rfl,?_⟩
 have H:=H.more H';clear H';simp only[Bv]at H
 refine kG ?_
 refine En O (AQ O (Au (uj ?_)))
 refine Ec (fun z f W=>∃(i:Nat) (OA:Option Addr) (oc:Nat),i≤l.length∧z=l.length-i∧f 0=ptr p∧f 3= .int .i64 y∧f 49= .slice QA l.length qc∧f 50= .int .i64 l.length∧f 51= .int .i64 i∧Heap w I [Dw 1 (.slice QA l.length qc) l.length (l.map (Value.int .i64)) 3,grp (Qr g n A k c p bs bb OA oc (Tr.along (Ob.pl n d.cache hs) (Tr.pop s) y l i))] W) l.length ⟨0,_,oc,Y,rfl,rfl,rfl,rfl,rfl,rfl,H⟩ ?_
 clear H
 rintro z f W ⟨i,OA,oc2,hi,rfl,f0,f3,f49,f50,f51,H⟩
 obtain⟨f,rfl⟩:=Lr f0 f3 f49 f50 f51
 clear f0 f3 f49 f50 f51
 have hok2:=hok.pop.along y l i
 by_cases hlt:i<l.length
 ·obtain⟨x,hx⟩:∃x,l[i]? =some x:=⟨_,Ar Y⟩
  have hxb:=hpb x (A8 hx)
  have hxd:l.getD i 0=x:=by rw[Ba,hx];rfl
  have ayH:=ae9 hok2
  obtain⟨r,rfl⟩:=H.JC 0 rfl Y
  have hR:=fun{W:World} (H:Heap w I [Dw 1 (.slice (some ⟨r,0,none⟩) l.length qc) l.length (l.map (Value.int .i64)) 3,grp (Qr g n A k c p bs bb OA oc2 (Tr.along (Ob.pl n d.cache hs) (Tr.pop s) y l i))] W)=>ajc ((WM H).two 1 rfl) hw hl ((hS2 H).mono (fun j hj=>by rw[EW,EW];exact C9 _ (C9 _ (BQ _ hj)))) hk hk2 hW Y Y y i x ⟨Y,Y⟩ ⟨Y,Y⟩ ⟨Y,Y⟩
  refine lW ?_
  refine AL (FC O O O Y underlying22 Kz) (AL (L9 H 0 O O hx GU) (AQ O (AQ O (Au (DR (BF O (Az O (Az O (AL (FP (ajB _ _) O) (Az O (s_call O (hR H) (aqS O) ?_)))))))))))
  rintro e W1 ⟨rfl,OW,oc',H'⟩
  refine⟨_,rfl,?_⟩
  have H:=H.DN 1 rfl H';clear H';simp only[Bv]at H
  refine vG ?_
  refine⟨_,_,?_,rfl,i+1,OW,oc',Y,rfl,rfl,rfl,rfl,rfl,rfl,?_⟩
  ·omega
  ·rw[Tr.along,hxd];exact H
 ·obtain rfl:i=l.length:=Y
  refine uS ?_
  refine gZ ?_
  exact⟨rfl,OA,oc2,Iw H.drop⟩
end
end
end
section
section
open Go.RowKit
section
variable{g:Geo}{d:Nv.D}{n k c p bs bb oc:Nat}{A OA:Option Addr}{hs:List Ob.H3}{s:Tr.S}{w:World}{K:List Nat}
theorem auu(hE:DW [grp (Dz g d),grp (Qr g n A k c p bs bb OA oc s)] w)(hw:Ob.SQ d.cache)(hl:d.cache.length≤1000000000)(hS:JQ w K A hs)(hIK:∀i∈ids (Qr g n A k c p bs bb OA oc s),i∈K)(hk:hs.length=k)(hk2:k≤1000000)(hW:hsW hs)(hn:n≤1900)(hok:Tr.Ok (Ob.pl n d.cache hs) s)(hlen:s.seen.length=s.op.length+0):
 Calls prog 239 [ptr p].toArray w fun e w'=>∃(N:Nat) (OW:Option Addr) (oc':Nat),(∀j,j<N→(Tr.steps (Ob.pl n d.cache hs) (Ob.ptrs d.cache) s j).op≠[])∧(Tr.steps (Ob.pl n d.cache hs) (Ob.ptrs d.cache) s N).op=[]∧e= .returned (.int .i64 (if(Tr.steps (Ob.pl n d.cache hs) (Ob.ptrs d.cache) s N).bad=[]then 0 else 22))∧Heap w (ids (Qr g n A k c p bs bb OA oc s)) (Qr g n A k c p bs bb OW oc' (Tr.steps (Ob.pl n d.cache hs) (Ob.ptrs d.cache) s N)) w':=by
 have WM:=fun{L:List Fp} {W:World} (H:Heap w (ids (Qr g n A k c p bs bb OA oc s)) L W)=>hE.on H
 have hS2:=fun{L:List Fp} {W:World} (H:Heap w (ids (Qr g n A k c p bs bb OA oc s)) L W)=>hS.on H hIK
 have H:=GZ hE.snd
 generalize hI:ids (Qr g n A k c p bs bb OA oc s)=I at*
 refine BM 11 func239 O (Aw (qw ?_))
 refine E8 (Ec (fun z f W=>∃(i:Nat) (OA:Option Addr) (oc:Nat),i≤512*n∧z=512*n-i∧(∀j,j<i→(Tr.steps (Ob.pl n d.cache hs) (Ob.ptrs d.cache) s j).op≠[])∧f 0=ptr p∧f 2= .int .i64 0∧Heap w I [grp (Qr g n A k c p bs bb OA oc (Tr.steps (Ob.pl n d.cache hs) (Ob.ptrs d.cache) s i))] W) (512*n) ⟨0,OA,oc,Y,rfl,Y,rfl,rfl,H⟩ ?_)
 clear H
 rintro z f W ⟨i,OA,oc2,hi,rfl,hj,f0,f2,H⟩
 obtain⟨f,rfl⟩:=VT f0 f2
 clear f0 f2
 have ajP:=hok.steps (pt:=Ob.ptrs d.cache) i
 have ayv:=Tr.acZ (Ob.pl n d.cache hs) (Ob.ptrs d.cache) s hlen i hj
 have ayG:=ae9 ajP
 generalize hs2:Tr.steps (Ob.pl n d.cache hs) (Ob.ptrs d.cache) s i=s2 at*
 by_cases h0:s2.op=[]
 ·have hSt:=fun{W:World} hE=>apb (g:=g) (n:=n) (k:=k) (c:=c) (p:=p) (bs:=bs) (bb:=bb) (oc:=oc2) (A:=A) (OA:=OA) (s:=s2) (w:=W) hE h0
  by_cases hb:s2.bad=[]
  ·have hbl:(s2.bad.length:Int)=0:=by rw[hb];rfl
   refine AP (Aw (BF O (BI H O (hSt (H.Bl 0 O)) (am9 O) fun W1 H=>Au (qM ?_))))
   refine xU ?_
   refine fH ?_
   rw[←hs2]at H h0 hb
   exact⟨i,OA,oc2,hj,h0,by rw[if_pos hb],Iw H⟩
  ·have hbl:=Gn.2 hb
   refine AP (Aw (BF O (BI H O (hSt (H.Bl 0 O)) (am9 O) fun W1 H=>Au (qM ?_))))
   refine AL (Jl O O Y) (fV ?_)
   rw[←hs2]at H h0 hb
   exact⟨i,OA,oc2,hj,h0,by rw[if_neg hb],Iw H⟩
 ·have hpos:=Gn.2 h0
  have hSt:=fun{W:World} (H:Heap w I [grp (Qr g n A k c p bs bb OA oc2 s2)] W)=>asL ((WM H).two 0 rfl) hw hl (hS2 H) (fun j hj=>C9 _ (by rw[EW];exact BQ _ hj)) hk hk2 hW hn ajP h0
  refine AP (Aw (BF O (s_call O (hSt H) (am9 O) ?_)))
  rintro e W1 ⟨rfl,OW,oc',H'⟩
  refine⟨_,rfl,?_⟩
  have H:=H.DN 0 rfl H';clear H';simp only[Bv]at H
  refine x9 ?_
  refine Bj (Dh (CU ?_))
  refine⟨_,_,?_,rfl,i+1,OW,oc',Y,rfl,fun j hji=>?_,rfl,rfl,?_⟩
  ·omega
  ·by_cases e:j=i
   ·subst e;rw[hs2];exact h0
   ·exact hj j Y
  ·rw[Tr.steps,hs2];exact H
theorem asG(hE:DW (Qr g n A k c p bs bb OA oc s) w)(hm:s.seen.length≤1000000):
 Calls prog 240 [ptr p].toArray w fun e w'=>∃(A':Option Addr) (c':Nat),e= .returned (.slice A' s.seen.length c')∧Heap w [] [Dw 1 (.slice A' s.seen.length c') s.seen.length ((srt s.seen).map (Value.int .i64)) 3] w':=by
 have HR:=Heap.start hE
 obtain⟨es,clock,M⟩:=hE.ag' 1 rfl
 have H:=Heap.nil w
 unfold Qr at HR
 have anF:(Q5 s.seen).map Prod.fst=s.seen:=by unfold Q5;rw[Ja];exact VA _
 refine BM 21 func240 O (Aw (En O (Au (Aw (En O (Au (AP (eY ?_))))))))
 refine BR O ZV (BD (HR.same H.only) 0 O O O ajd (ami M H O O underlying327 ?_))
 intro r _ H';clear H;have H:=H';clear H'
 refine Au (E8 ?_)
 replace H:=H.G6 1 3
 refine Ec (fun z f W=>∃(lb:List ((Int×Bool)×Bool)) (cur:Option (Int×Bool)) (OA:Option Addr) (co:Nat) (out:List Int),z=(mleft lb).length∧lb.map (·.1)=Q5 s.seen∧(out++(mleft lb).map Prod.fst).Perm s.seen∧f 3= .slice OA out.length co∧f 9=ptr r∧Heap w [] [Dw 1 (.slice OA out.length co) out.length (out.map (Value.int .i64)) 3,mri kT Value.bool es clock bs r lb cur] W) _ ⟨(Q5 s.seen).map fun p=>(p,true),none,none,0,[],rfl,agu _,by rw[YT,anF];exact QT _,rfl,rfl,H⟩ ?_
 clear H
 rintro z f W ⟨lb,cur,OA,co,out,rfl,hlb,hpm,f3,f9,H⟩
 have hol:out.length≤1000000:=by have:=hpm.length_eq;simp at this;omega
 obtain⟨f,rfl⟩:=VT f3 f9
 clear f3 f9
 by_cases hl:mleft lb=[]
 ·refine Aw (adZ M H 1 (hl) O O O (lH ?_))
  refine Au (AP (dw ?_))
  refine AP ?_
  rw[hl,D5,Du]at hpm
  have hlen:out.length=s.seen.length:=by have:=hpm.length_eq;simpa using this
  have hS:=fun{W:World} hE=>awv OA out.length co out 3 W hE Y
  refine DR (CY O (s_call O (hS (H.awR 0 O)) (avo O) ?_))
  rintro e W1 ⟨rfl,H'⟩
  refine⟨_,rfl,?_⟩
  have H:=H.at 0 rfl H' (fun i hi=>by simpa [ids]using hi);clear H'
  refine Au (Aw (CY O (oZ ?_)))
  rw[asY hpm]at H
  rw[hlen]at H
  exact⟨OA,co,by rw[hlen],(H:Heap w [] ([_]++ [_]) _).drops⟩
 ·refine Aw (agP M H 1 (hl) O O O ?_)
  clear H;intro j q _ hq gq H;simp only[Bv,Nat.reduceAdd]at H
  refine lH ?_
  refine Au (AP (EI O (Bj (AO (E8 (Aw (AL (amF M H 1 O O) (DK O O (AQ O (Au (DR (CY O (Az O ?_)))))))))))))
  refine lQ ?_
  clear H;intro _ An cn _ H;simp only[Bv,Nat.reduceAdd]at H
  refine En O (AA (Dh (CU ?_)))
  have hfs:=anz hq
  have hml:=ab7 hq
  refine⟨_,_,?_,rfl,lb.set j (q,false),some q,An,cn,out++ [q.1],rfl,by rw[hfs];exact hlb,?_,by rw[Cm];rfl,rfl,by rw[Cm];exact H⟩
  ·omega
  ·have hp:=(Pg lb j q hq).map Prod.fst
   rw[DI]
   exact(O4 out hp.symm).trans hpm
theorem ajx(hE:DW (Dz g d) w)(hw:Ob.SQ d.cache)(hl:d.cache.length≤1000000000)(hS:JQ w [] A hs)(hk:hs.length=k)(hk2:k≤1000000)(hW:hsW hs)(hn:n≤1900)(FA:Option Addr)(fn fc:Nat)(l:List Int)(hF:Gm (Value.int .i64) w [] FA l)(hfl:l.length=fn)(hfn:fn≤1000000)(hlb:∀a∈l,RI a):
 Calls prog 174 [ptr g.p,.agg [.int .i64 n].toArray,.slice A k c,.slice FA fn fc].toArray w fun e w'=>∃(N:Nat) (s1:Tr.S),s1=Tr.Gl (Ob.pl n d.cache hs) Tr.s0 l l.length∧(∀j,j<N→(Tr.steps (Ob.pl n d.cache hs) (Ob.ptrs d.cache) s1 j).op≠[])∧(Tr.steps (Ob.pl n d.cache hs) (Ob.ptrs d.cache) s1 N).op=[]∧
  ((Tr.steps (Ob.pl n d.cache hs) (Ob.ptrs d.cache) s1 N).bad≠[]∧e= .returned (.tuple [.slice none 0 0,.int .i64 22].toArray)∧Only [] w w'∨
   (Tr.steps (Ob.pl n d.cache hs) (Ob.ptrs d.cache) s1 N).bad=[]∧∃A' c',e= .returned (.tuple [.slice A' (Tr.steps (Ob.pl n d.cache hs) (Ob.ptrs d.cache) s1 N).seen.length c',.int .i64 0].toArray)∧Heap w [] [Dw 1 (.slice A' (Tr.steps (Ob.pl n d.cache hs) (Ob.ptrs d.cache) s1 N).seen.length c') (Tr.steps (Ob.pl n d.cache hs) (Ob.ptrs d.cache) s1 N).seen.length ((srt (Tr.steps (Ob.pl n d.cache hs) (Ob.ptrs d.cache) s1 N).seen).map (Value.int .i64)) 3] w'):=by
 have HD:=GZ hE
 have H:=Heap.nil w
 refine BM 43 func174 O (Aw (DU H O O fun p5 _ H=>En O (nV ?_)))
 refine qR ?_
 refine CY O (s_call O (atW g n A k c _) (atw O) ?_)
 rintro e W1 ⟨p,bs,bb,rfl,H'⟩
 refine⟨_,rfl,?_⟩
 have H:=H.more (A:=[grp _]) (Hw H');clear H';simp only[Bv]at H
 refine EX O (Au (Aw (AQ O (Au (uj ?_)))))
 replace H:=Heap.Ew H [0] rfl rfl
 refine Ec (fun z f W=>∃(i:Nat) (OA:Option Addr) (oc:Nat) (q:Int),i≤fn∧z=fn-i∧(q=0∨(Tr.Gl (Ob.pl n d.cache hs) Tr.s0 l i).bad≠[])∧f 10=ptr p∧f 11= .int .i64 q∧f 20= .slice FA fn fc∧f 21= .int .i64 fn∧f 22= .int .i64 i∧Heap w [] [grp (Qr g n A k c p bs bb OA oc (Tr.Gl (Ob.pl n d.cache hs) Tr.s0 l i))] W) fn ⟨0,none,0,0,Y,rfl,.inl O,rfl,rfl,rfl,rfl,rfl,H⟩ ?_
 clear H
 rintro z f W ⟨i,OA,oc,q,hi,rfl,hq,f10,f11,f20,f21,f22,H⟩
 obtain⟨f,rfl⟩:=Lr f10 f11 f20 f21 f22
 clear f10 f11 f20 f21 f22
 have ajP:=(Tr.ok0 (Ob.pl n d.cache hs)).Gl l i
 have WM:∀{s2:Tr.S} {OA:Option Addr} {oc:Nat} {W2:World},Heap w [] [grp (Qr g n A k c p bs bb OA oc s2)] W2→DW [grp (Dz g d),grp (Qr g n A k c p bs bb OA oc s2)] W2:=fun{s2 OA oc W2} H=>by
  have h1:=Heap.more HD H
  exact⟨fun E hE=>by rcases Dq.1 hE with rfl|h2;exact h1.ok _ J;exact h1.ok _ (by simp at h2⊢;exact .inl h2),by
   have h2:=h1.nd
   rw[U8,EW,EW]at h2
   rw[EW,EW]
   have h3:ids ([]:List Fp)=[]:=rfl
   rw[h3,Du]at h2⊢
   exact(Gj.nodup_iff).1 h2⟩
 have hSv:∀{s2:Tr.S} {OA:Option Addr} {oc:Nat} {W2:World},Heap w [] [grp (Qr g n A k c p bs bb OA oc s2)] W2→JQ W2 (ids (Qr g n A k c p bs bb OA oc s2)) A hs:=fun{s2 OA oc W2} H=>(hS.on H J).mono (fun j hj=>C9 _ (by rw[EW];exact BQ _ hj))
 by_cases hlt:i<fn
 ·obtain⟨x,hx⟩:∃x,l[i]? =some x:=⟨_,Ar Y⟩
  have hxd:l.getD i 0=x:=by rw[Ba,hx];rfl
  obtain⟨b,o,rfl,_,hrd⟩:=hF Y
  have cx:=hrd i x hx
  have hR:=fun{W:World} (H:Heap w [] [grp (Qr g n A k c p bs bb OA oc (Tr.Gl (Ob.pl n d.cache hs) Tr.s0 l i))] W)=>atd (WM H) hw hl (hSv H) hk hk2 hW hn ajP x (hlb x (A8 hx))
  have hrs:Tr.Gl (Ob.pl n d.cache hs) Tr.s0 l (i+1)=Tr.reach (Ob.pl n d.cache hs) (Tr.Gl (Ob.pl n d.cache hs) Tr.s0 l i) (-1,0) x:=by rw[Tr.Gl,hxd]
  have hcb:=Tr.ak5 (Ob.pl n d.cache hs) (Tr.Gl (Ob.pl n d.cache hs) Tr.s0 l i) (-1,0) x
  have hbe:=Tr.aa8 (Ob.pl n d.cache hs) (Tr.Gl (Ob.pl n d.cache hs) Tr.s0 l i) (-1,0) x
  rw[←hrs]at hR hcb hbe
  generalize Tr.code (Ob.pl n d.cache hs) (Tr.Gl (Ob.pl n d.cache hs) Tr.s0 l i) x=cd at*
  by_cases hc0:cd=0
  ·subst hc0
   refine vg ?_
   rintro e W1 ⟨rfl,OW,oc',H'⟩
   refine⟨_,rfl,?_⟩
   have H:=H.DN 0 rfl H';clear H';simp only[Bv]at H
   refine vY ?_
   exact⟨_,_,Y,rfl,i+1,OW,oc',q,Y,rfl,hq.imp id (fun h h2=>h (hbe h2)),rfl,rfl,rfl,rfl,rfl,H⟩
  ·refine vg ?_
   rintro e W1 ⟨rfl,OW,oc',H'⟩
   refine⟨_,rfl,?_⟩
   have H:=H.DN 0 rfl H';clear H';simp only[Bv]at H
   refine oG ?_
   refine AL (Hl O O Y) (Au (EI O (DR (Az O (AQ O (vG ?_))))))
   exact⟨_,_,Y,rfl,i+1,OW,oc',cd,Y,rfl,.inr (fun h2=>hc0 (hcb h2)),rfl,rfl,rfl,rfl,rfl,H⟩
 ·obtain rfl:i=l.length:=Y
  have hlen:=Tr.Zp (Ob.pl n d.cache hs) l l.length
  generalize hs1:Tr.Gl (Ob.pl n d.cache hs) Tr.s0 l l.length=s1 at*
  have hR:=fun{W:World} (H:Heap w [] [grp (Qr g n A k c p bs bb OA oc s1)] W)=>auu (WM H) hw hl (hSv H) (fun _ h=>h) hk hk2 hW hn ajP hlen
  refine je ?_
  refine AP (Aw (BF O (s_call O (hR H) (awF O) ?_)))
  rintro e W1 ⟨N,OW,oc',hN1,hN2,rfl,H'⟩
  refine⟨_,rfl,?_⟩
  have H:=H.DN 0 rfl H';clear H';simp only[Bv]at H
  refine qw ?_
  by_cases hb:(Tr.steps (Ob.pl n d.cache hs) (Ob.ptrs d.cache) s1 N).bad=[]
  ·have hb1:=Tr.aaR _ _ _ _ hb
   obtain rfl:q=0:=hq.elim id (fun h=>absurd hb1 h)
   have ayI:=ae9 (ajP.steps (pt:=Ob.ptrs d.cache) N)
   have hSe:=fun{W:World} hE=>asG (g:=g) (n:=n) (k:=k) (c:=c) (p:=p) (bs:=bs) (bb:=bb) (oc:=oc') (A:=A) (OA:=OW) (s:=Tr.steps (Ob.pl n d.cache hs) (Ob.ptrs d.cache) s1 N) (w:=W) hE Y
   rw[if_pos hb]
   refine DR (Az O (AL (Dc O O Y) (BL O (AX 37 O (Fz O) (AX 37 O (Dc O O Y) (fE ?_))))))
   refine Aw (BF O (s_call O (hSe (H.Bl 0 O)) (atS O) ?_))
   rintro e W1 ⟨A',c',rfl,H'⟩
   refine⟨_,rfl,?_⟩
   have H:=H.more H';clear H';simp only[Bv]at H
   refine xO ?_
   exact⟨N,s1,rfl,hN1,hN2,.inr ⟨hb,A',c',rfl,Heap.Ew H [0] rfl rfl⟩⟩
  ·rw[if_neg hb]
   refine DR (Az O (AL (Hl O O Y) (BL O (Cc 37 O O (Cc 37 O O (ED O O (ql ?_)))))))
   refine En O (oL ?_)
   refine fP ?_
   exact⟨N,s1,rfl,hN1,hN2,.inl ⟨hb,rfl,H.only⟩⟩
end
end
end
section
section
open Go.RowKit
theorem ae0{xs:List Int}(h:Im.U xs):Ints .u64 xs:=fun z hz=>wf_u64 (h z hz)
theorem apo{xs:List Int}(h:By.Nz xs):Ints .u8 xs:=fun z hz=>wf_u8 (h z hz)
theorem YF(A:Option Addr)(n c:Nat)(xs:List Int)(w:World)(hz:Gm (Value.int .u64) w [] A xs)(hl:xs.length=n)(hU:Im.U xs)(hn:n≤1000000000):
 Calls prog 44 [.slice A n c].toArray w fun e w'=>e= .returned (.int .u32 (Im.sum xs))∧Only [] w w':=
 (Gx A n c xs _ w (hz.row hl) (ae0 hU) Y (Bg _)).mono fun _ _ h=>⟨h.1,Only.of_below h.2 _⟩
def Gives(k:IntKind)(T:TypeId)(xs:List Int)(w:World)(e:Ending)(w':World):Prop:=
 ∃A c,e= .returned (.slice A xs.length c)∧Heap w [] [Dw 1 (.slice A xs.length c) xs.length (xs.map (Value.int k)) T] w'
theorem ar5(A:Option Addr)(n c:Nat)(xs:List Int)(w:World)(hz:Gm (Value.int .u64) w [] A xs)(hl:xs.length=n)(hU:Im.U xs)(hn:n≤1000000000):
 Calls prog 49 [.slice A n c].toArray w (Gives .u8 5 (By.bytes xs) w):=
 (acX A n c xs _ w (hz.row hl) (ae0 hU) Y (Bg _)).mono fun _ _ ⟨v,he,ho,hb⟩=>by
  obtain⟨A',c',rfl,H⟩:=afO ho hb
  have e:(By.bytes xs).length=8*n:=by rw[By.Wh,hl]
  unfold Gives
  rw[e]
  exact⟨A',c',he,H⟩
theorem ale(A:Option Addr)(n c:Nat)(xs:List Int)(w:World)(hz:Gm (Value.int .u8) w [] A xs)(hl:xs.length=n)(hU:By.Nz xs)(hn:n≤1000000):
 Calls prog 43 [.slice A n c].toArray w (Gives .u64 26 (By.words xs) w):=
 (ahM A n c xs _ w (hz.row hl) (apo hU) hn (Bg _)).mono fun _ _ ⟨v,he,ho,hb⟩=>by
  obtain⟨A',c',rfl,H⟩:=afO ho hb
  exact⟨A',c',he,H⟩
end
end
section
section
open Go.RowKit
structure IE where
 z:Nat
 l:List Int
 A:Option Addr
 c:Nat
def IE.C(r:IE):List C1:=[.i .i64 r.z,.s r.A r.l.length r.c]
def IE.E(r:IE):Fp:=Dw 1 (.slice r.A r.l.length r.c) r.l.length (r.l.map (Value.int .u64)) 26
def IE.P(r:IE):Nat×List Int:=(r.z,r.l)
theorem ati{w0 W:World}{F:List Nat}{L:List Fp}(H:Heap w0 F L W)(T:TypeId):Heap w0 F (Dw 1 (.slice none 0 0) 0 (([]:List Int).map (Value.int .u64)) T::L) W:=H.G6 1 T
theorem avk{w0 W:World}{F:List Nat}{L:List Fp}(H:Heap w0 F L W)(T:TypeId):Heap w0 F (Dw 2 (.slice none 0 0) 0 (([]:List C1).map C1.v) T::L) W:=H.G6 2 T
theorem aaW{α:Type}{l:List α}{k:Nat}{x:α}(h:l[k]? =some x):l.take k++ [x]=l.take (k+1):=by rw[Fj,h];rfl
theorem as6(ws:List Int)(i n:Nat)(hl:ws.length=n)(hlt:i<n)(w:World)(b o:Nat)(hr:Reads (Value.int .u64) w b o ws):
 ∃(Z:Nat) (R:List Int),R=ws.drop (i+Z)∧i+Z≤n∧i+Z+Im.nr R≤n∧0<Z+Im.nr R∧Im.rn (ws.drop i)=(Z,R.take (Im.nr R))::Im.rn (ws.drop (i+Z+Im.nr R))∧(R.take (Im.nr R)).length=Im.nr R∧
  (∀k,k<Z→w.cell? ⟨b,o+(i+k),none⟩=some (.int .u64 0))∧(i+Z<n→∃z,w.cell? ⟨b,o+(i+Z),none⟩=some (.int .u64 z)∧z≠0)∧
  (∀k,k<Im.nr R→∃z,R[k]? =some z∧w.cell? ⟨b,o+(i+Z+k),none⟩=some (.int .u64 z)∧z≠0)∧(i+Z+Im.nr R<n→w.cell? ⟨b,o+(i+Z+Im.nr R),none⟩=some (.int .u64 0)):=by
 have hne:ws.drop i≠[]:=by
  intro h
  have:=congrArg List.length h
  rw[CZ]at this
  simp at this;omega
 have hs:=Im.ad4 _ hne
 have hz1:=Im.acD (ws.drop i)
 have hz2:=Im.aaJ ((ws.drop i).drop (Im.zr (ws.drop i)))
 have hsp:=Im.step_pos _ hne
 have hst:Im.step (ws.drop i)=Im.zr (ws.drop i)+Im.nr ((ws.drop i).drop (Im.zr (ws.drop i))):=rfl
 rw[CZ]at hz1
 rw[CZ,CZ]at hz2
 refine⟨Im.zr (ws.drop i),(ws.drop i).drop (Im.zr (ws.drop i)),by rw[Nk],Y,Y,Y,?_,by rw[Dy,CZ,CZ];omega,fun k hk=>hr (i+k) 0 ?_,fun hk=>?_,fun k hk=>?_,fun hk=>?_⟩
 ·rw[hs,hst]
  generalize Im.nr (List.drop (Im.zr (List.drop i ws)) (List.drop i ws))=q
  generalize Im.zr (List.drop i ws)=y
  rw[show List.drop (y+q) (List.drop i ws)=List.drop (i+y+q) ws by rw[Nk,Gs]]
 ·have:=Im.ahl _ k hk
  rwa [DV]at this
 ·obtain⟨z,h1,h2⟩:=Im.ahs (ws.drop i) zU
  rw[DV]at h1
  exact⟨z,hr _ z h1,h2⟩
 ·obtain⟨z,h1,h2⟩:=Im.ahD _ k hk
  have h3:=h1
  rw[DV,DV]at h3
  exact⟨z,h1,by have:=hr _ z h3;rwa [←Gs i]at this,h2⟩
 ·have h1:=Im.ag7 ((ws.drop i).drop (Im.zr (ws.drop i))) (by rw[CZ,CZ];omega)
  rw[DV,DV]at h1
  have:=hr _ 0 h1
  rwa [←Gs i]at this
theorem avK(A:Option Addr)(n c:Nat)(ws:List Int)(w:World)(hz:Gm (Value.int .u64) w [] A ws)(hl:ws.length=n)(hn:n≤1000000):
 Calls prog 48 [.slice A n c].toArray w fun e w'=>∃(A':Option Addr) (c':Nat) (rs:List IE),e= .returned (.slice A' rs.length c')∧rs.map IE.P=Im.rn ws∧Heap w [] [Dw 2 (.slice A' rs.length c') rs.length ((rs.flatMap IE.C).map C1.v) 100,grp (rs.map IE.E)] w':=by
 have H0:=Heap.nil w
 have H1:=H0.aag
 have H:=avk H1 100
 clear H0 H1
 refine BM 54 func48 O (Aw (En O (Au (Aw (En O (Au (tC ?_)))))))
 refine Ec (fun z f W=>∃(i:Nat) (A':Option Addr) (c':Nat) (rs:List IE),i≤n∧z=n-i∧rs.length≤i∧rs.map IE.P++Im.rn (ws.drop i)=Im.rn ws∧f 0= .slice A n c∧f 3= .slice A' rs.length c'∧f 4= .int .i64 i∧Heap w [] [Dw 2 (.slice A' rs.length c') rs.length ((rs.flatMap IE.C).map C1.v) 100,grp (rs.map IE.E)] W) n ⟨0,none,0,[],Y,rfl,Bg _,J,rfl,rfl,rfl,H⟩ ?_
 clear H
 rintro z f W ⟨i,A',c',rs,hi,rfl,hrl,hrn,f0,f3,f4,H⟩
 obtain⟨f,rfl⟩:=OE f0 f3 f4
 clear f0 f3 f4
 by_cases hlt:i<n
 ·obtain⟨b,o,rfl,_,hr⟩:=hz Y
  have H2:=ati H 26
  clear H
  have H:=H2
  clear H2
  obtain⟨Z,R,_,hb1,hb2,hb3,hs,hLl,hg1,hg2,hg3,hg4⟩:=as6 ws i n hl hlt w b o hr
  refine wo ?_
  refine AL (Df O O Y) (x9 ?_)
  refine Aw (Ea H O ahv fun p5 _ H=>Au (AP ?_))
  refine Jj (fun f W=>f 0= .slice (some ⟨b,o,none⟩) n c∧f 3= .slice A' rs.length c'∧f 4= .int .i64 ((i+Z:Nat):Int)∧f 5=ptr p5∧Heap w [] [blk p5 [.int .i64 Z,.slice none 0 0] 100,Dw 1 (.slice none 0 0) 0 (([]:List Int).map (Value.int .u64)) 26,Dw 2 (.slice A' rs.length c') rs.length ((rs.flatMap IE.C).map C1.v) 100,grp (rs.map IE.E)] W) ?_ ?_
  ·refine E8 (Ec (fun z f W=>∃k:Nat,k≤Z∧z=n-k∧f 0= .slice (some ⟨b,o,none⟩) n c∧f 3= .slice A' rs.length c'∧f 4= .int .i64 ((i+k:Nat):Int)∧f 5=ptr p5∧Heap w [] [blk p5 [.int .i64 k,.slice none 0 0] 100,Dw 1 (.slice none 0 0) 0 (([]:List Int).map (Value.int .u64)) 26,Dw 2 (.slice A' rs.length c') rs.length ((rs.flatMap IE.C).map C1.v) 100,grp (rs.map IE.E)] W) n ⟨0,Y,rfl,rfl,rfl,rfl,rfl,H⟩ ?_)
   clear H
   rintro z f W ⟨k,hk,rfl,f0,f3,f4,f5,H⟩
   obtain⟨f,rfl⟩:=Ih f0 f3 f4 f5
   clear f0 f3 f4 f5
   by_cases hlt2:k<Z
   ·have hc:=hg1 k hlt2
    refine nU ?_
    refine AX 14 O (Fv O O Y) (ED O O (x9 ?_))
    refine DR (BR O aeB (mQ ?_))
    refine dI ?_
    refine nI ?_
    refine BR O aeB (jh ?_)
    clear H;refine ayJ fun _ H=>?_
    refine AQ O (AA (Dh (CU ?_)))
    refine⟨_,_,?_,rfl,k+1,Y,rfl,rfl,rfl,?_,rfl,H⟩
    ·omega
    ·exact congrArg (Value.int .i64) Y
   ·obtain rfl:k=Z:=Y
    by_cases hend:i+k<n
    ·obtain⟨z,hc,hz0⟩:=hg2 hend
     refine nU ?_
     refine AX 14 O (Fb O O Y) (ED O O (xQ ?_))
     refine Dt ?_
     exact⟨rfl,rfl,rfl,rfl,H⟩
    ·refine wo ?_
     refine AL (CO O O Y) (BL O (vS ?_))
     refine Cc 14 O O (Cc 14 O O (Dp O O (xQ ?_)))
     refine Dt ?_
     exact⟨rfl,rfl,rfl,rfl,H⟩
  ·clear H
   rintro f W ⟨f0,f3,f4,f5,H⟩
   obtain⟨f,rfl⟩:=Ih f0 f3 f4 f5
   clear f0 f3 f4 f5
   refine AO (AP ?_)
   refine Jj (fun f W=>∃A2 c2,f 0= .slice (some ⟨b,o,none⟩) n c∧f 3= .slice A' rs.length c'∧f 4= .int .i64 ((i+Z+Im.nr R:Nat):Int)∧f 5=ptr p5∧Heap w [] [blk p5 [.int .i64 Z,.slice A2 (Im.nr R) c2] 100,Dw 1 (.slice A2 (Im.nr R) c2) (Im.nr R) ((R.take (Im.nr R)).map (Value.int .u64)) 26,Dw 2 (.slice A' rs.length c') rs.length ((rs.flatMap IE.C).map C1.v) 100,grp (rs.map IE.E)] W) ?_ ?_
   ·refine E8 (Ec (fun z f W=>∃(k:Nat) (A2:Option Addr) (c2:Nat),k≤Im.nr R∧z=n-k∧f 0= .slice (some ⟨b,o,none⟩) n c∧f 3= .slice A' rs.length c'∧f 4= .int .i64 ((i+Z+k:Nat):Int)∧f 5=ptr p5∧Heap w [] [blk p5 [.int .i64 Z,.slice A2 k c2] 100,Dw 1 (.slice A2 k c2) k ((R.take k).map (Value.int .u64)) 26,Dw 2 (.slice A' rs.length c') rs.length ((rs.flatMap IE.C).map C1.v) 100,grp (rs.map IE.E)] W) n ⟨0,none,0,Y,rfl,rfl,rfl,rfl,rfl,H⟩ ?_)
    clear H
    rintro z f W ⟨k,A2,c2,hk,rfl,f0,f3,f4,f5,H⟩
    obtain⟨f,rfl⟩:=Ih f0 f3 f4 f5
    clear f0 f3 f4 f5
    by_cases hlt2:k<Im.nr R
    ·obtain⟨z,hzR,hc,hz0⟩:=hg3 k hlt2
     refine wo ?_
     refine AL (Df O O Y) (BL O (AX 31 O (UN O) (AX 31 O (Fz O) (AX 31 O (Gp O O O Y underlying55 GV) (AX 31 O (Hq H (i:=o+(i+Z+k)) O hc J GR) (AX 31 O (Hl O O Y) (ED O O (x9 ?_))))))))
     refine Jj (fun f W=>∃A3 c3,f 0= .slice (some ⟨b,o,none⟩) n c∧f 3= .slice A' rs.length c'∧f 4= .int .i64 ((i+Z+k:Nat)+1:Int)∧f 5=ptr p5∧Heap w [] [blk p5 [.int .i64 Z,.slice A3 (k+1) c3] 100,Dw 1 (.slice A3 (k+1) c3) (k+1) ((R.take k++ [z]).map (Value.int .u64)) 26,Dw 2 (.slice A' rs.length c') rs.length ((rs.flatMap IE.C).map C1.v) 100,grp (rs.map IE.E)] W) ?_ ?_
     ·refine Gu mixed ?_;replace H:=H.drew
      refine Dj 0 O O O (fun _ hS=>CB O Ws) trivial (Dj 2 O O O (fun _ hS=>BP (v:= .slice _ _ _) O) trivial (Dj 3 O O O (fun _ hS=>BP (v:= .int _ _) O) trivial (Dj 4 O O O (fun _ hS=>Gp O O O Y underlying55 GV) trivial (Dj 8 O O O (fun _ hS=>BP (v:= .int _ _) O) trivial (Dj 9 O O O (fun _ hS=>Dk O O (wI Y)) trivial ?_)))))
      refine D6 1 5 ?_ ?_
      ·refine BO O (BD H 0 O O O JE (iE ?_))
       refine AL (Hq H (i:=o+(i+Z+k)) O hc J GR) (nH ?_)
       refine sD ?_
       intro q6 _ H';clear H;have H:=H';clear H'
       refine aj ?_
       refine lg ?_
       clear H;intro _ _ _ H;simp only[Bv,Nat.reduceAdd]at H
       refine aj ?_
       refine mg ?_
       clear H;refine ayJ fun _ H=>?_
       refine rM ?_
       exact⟨_,_,rfl,rfl,rfl,rfl,H.drop⟩
      ·refine BO O (AL (Hq H (i:=o+(i+Z+k)) O hc J GR) (aj ?_))
       refine D6 1 6 ?_ ?_
       ·refine BO O (BD H 0 O O O JE (nH ?_))
        refine sD ?_
        intro q6 _ H';clear H;have H:=H';clear H'
        refine aj ?_
        refine lg ?_
        clear H;intro _ _ _ H;simp only[Bv,Nat.reduceAdd]at H
        refine aj ?_
        refine mg ?_
        clear H;refine ayJ fun _ H=>?_
        refine rM ?_
        exact⟨_,_,rfl,rfl,rfl,rfl,H.drop⟩
       ·refine BO O (sD ?_)
        intro q6 _ H';clear H;have H:=H';clear H'
        refine tH ?_
        refine BD H 1 O O O JE (aj ?_)
        refine lg ?_
        clear H;intro _ _ _ H;simp only[Bv,Nat.reduceAdd]at H
        refine aj ?_
        refine mg ?_
        clear H;refine ayJ fun _ H=>?_
        refine rM ?_
        exact⟨_,_,rfl,rfl,rfl,rfl,H.drop⟩
     clear H
     rintro f W ⟨A3,c3,f0,f3,f4,f5,H⟩
     obtain⟨f,rfl⟩:=Ih f0 f3 f4 f5
     clear f0 f3 f4 f5
     refine Dh (CU ?_)
     rw[aaW hzR]at H
     refine⟨_,_,?_,rfl,k+1,_,_,Y,rfl,rfl,rfl,?_,rfl,H⟩
     ·omega
     ·exact congrArg (Value.int .i64) Y
    ·obtain rfl:k=Im.nr R:=Y
     by_cases hend:i+Z+Im.nr R<n
     ·have hc:=hg4 hend
      refine wo ?_
      refine AL (Df O O Y) (BL O (AX 31 O (UN O) (AX 31 O (Fz O) (AX 31 O (Gp (i:=(i+Z+Im.nr R)) O O Y Y underlying55 GV) (AX 31 O (Hq H (i:=o+(i+Z+Im.nr R)) O hc J GR) (AX 31 O (Dc O O Y) (ED O O (xQ ?_))))))))
      refine Dt ?_
      exact⟨A2,c2,rfl,rfl,rfl,rfl,H⟩
     ·refine wo ?_
      refine AL (CO O O Y) (BL O (Cc 31 O O (Cc 31 O O (Cc 31 O O (Cc 31 O O (Cc 31 O O (Dp O O (xQ ?_))))))))
      refine Dt ?_
      exact⟨A2,c2,rfl,rfl,rfl,rfl,H⟩
   ·clear H
    rintro f W ⟨A2,c2,f0,f3,f4,f5,H⟩
    obtain⟨f,rfl⟩:=Ih f0 f3 f4 f5
    clear f0 f3 f4 f5
    refine AO (DR (CY O (Dn H 0 O O O ap1 aiy (agy (enc:=C1.v) (zs:=[C1.i .i64 Z,C1.s A2 (Im.nr R) c2]) H 2 O O O O C1.one Y Ak O O O Y underlying97 ahv O ?_))))
    clear H;intro _ bo co _ H;simp only[Bv,Nat.reduceAdd]at H
    refine En O (AA (Dh (CU ?_)))
    have h2:Heap w [] [grp _,_,_] _:=H.drop.pick 2 rfl
    have h3:Heap w [] [_,grp _,_] _:=h2.pick 1 rfl
    have h4:Heap w [] [_,grp _] _:=h3.XW.pick 1 rfl
    refine⟨_,_,?_,rfl,i+Z+Im.nr R,some ⟨bo,0,none⟩,co,rs++ [⟨Z,R.take (Im.nr R),A2,c2⟩],Y,rfl,?_,?_,rfl,?_,?_,?_⟩
    ·omega
    ·simp;omega
    ·rw[BU,DI,←hrn,hs];rfl
    ·rw[Cm];rfl
    ·exact congrArg (Value.int .i64) Y
    ·have e1:(rs++ [(⟨Z,R.take (Im.nr R),A2,c2⟩:IE)]).flatMap IE.C=rs.flatMap IE.C++ [C1.i .i64 Z,C1.s A2 (Im.nr R) c2]:=by simp[IE.C,hLl]
     have e2:(rs++ [(⟨Z,R.take (Im.nr R),A2,c2⟩:IE)]).map IE.E=rs.map IE.E++ [Dw 1 (.slice A2 (Im.nr R) c2) (Im.nr R) ((R.take (Im.nr R)).map (Value.int .u64)) 26]:=by simp only[BU,Dx,D5,IE.E,hLl]
     rw[e1,e2,Cm]
     exact h4
 ·obtain rfl:i=n:=Y
  rw[LJ Y,Im.ahQ,Du]at hrn
  refine wo ?_
  refine kH ?_
  refine Aw (CY O (oZ ?_))
  exact⟨A',c',rs,rfl,hrn,H⟩
end
end
section
section
open Go.RowKit
theorem aiw:∀(rs:List IE) (j:Nat) (r:IE),rs[j]? =some r→((rs.flatMap IE.C).drop (j*2)).take 2=r.C
 | [],j,r,h=>by simp at h
 |x::rs,0,r,h=>by
  simp at h;subst h;rfl
 |x::rs,j+1,r,h=>by
  have ih:=aiw rs j r zS
  rw[show(j+1)*2=2+j*2 by omega,←Nk]
  exact ih
theorem ahW{w0 W:World}{F:List Nat}{L:List Fp}(H:Heap w0 F L W)(i:Nat){b:Nat}{rs:List IE}{T:TypeId}(hi:L[i]? =some (vec C1.v b (rs.flatMap IE.C) T)){j:Nat}{r:IE}(hj:rs[j]? =some r):Reads C1.v W b (j*2) r.C:=by
 have:=H.reads i hi (j*2) 2
 rwa [aiw rs j r hj]at this
theorem abJ(a b:List (Nat×List Int)):Im.encs (a++b)=Im.encs a++Im.encs b:=by simp[Im.encs]
theorem arf{rs:List IE}{r:IE}{j:Nat}(hj:rs[j]? =some r):Dw 1 (.slice r.A r.l.length r.c) r.l.length (r.l.map (Value.int .u64)) 26∈rs.map IE.E:=
 BX.2 ⟨r,A8 hj,rfl⟩
theorem apS:∀(k:Nat) (l:List Int),l.length≤k→∀r∈Im.rn l,r.1+r.2.length≤l.length
 |0,l,h,r,hr=>by
  obtain rfl:l=[]:=BZ Y
  rw[Im.ahQ]at hr;cases hr
 |k+1,l,h,r,hr=>by
  by_cases hl:l=[]
  ·subst hl;rw[Im.ahQ]at hr;cases hr
  ·have h1:=Im.step_pos l hl
   have h2:=Im.Uc l
   have h3:Im.step l=Im.zr l+Im.nr (l.drop (Im.zr l)):=rfl
   rw[Im.ad4 l hl]at hr
   rcases Dq.1 hr with rfl|hr
   ·simp only[Dy,CZ];omega
   ·have:=apS k (l.drop (Im.step l)) zU r hr
    rw[CZ]at this;omega
theorem ais:∀rs:List (Nat×List Int),rs.length≤(Im.encs rs).length
 | []=>Bg _
 |r::rs=>by
  have:=ais rs
  simp only[Im.encs,FW,Im.enc1,Em,Cm]at this⊢
  omega
theorem auW(g:Geo)(d:Nv.D)(m:Nat)(w:World)(hE:DW (Dz g d) w)(ho:Nv.Ok d m)(hU:Im.U d.last)(hm:m≤20000):
 Calls prog 10 [ptr g.p].toArray w (Gives .u8 5 (Im.save d.last) w):=by
 have HR:=Heap.start hE
 have H:=Heap.nil w
 have hlen:=ho.hl
 generalize hws:d.last=ws at*
 have hbl:=Im.aaH ws.length ws (Bg _)
 have hhU:=Im.aie (l:=ws) Y hU
 have hoU:=Im.alr (l:=ws) Y hU
 have hA:=ax4 g d m w hE ho Y
 rw[hws]at hA
 refine BM 43 func10 O (Aw (En O (Au (Aw (BF O (s_call O (hA) (awN O) ?_))))))
 rintro e W1 ⟨ba,ca,rfl,hca,H'⟩
 refine⟨_,rfl,?_⟩
 have H:=H.more (A:=[_]) H';clear H';simp only[Bv]at H
 refine En O (Au (Aw (dV ?_)))
 refine iC ?_
 refine LC (enc:=(Value.int .u64)) (zs:=[13905993476890996,((8*m:Nat):Int)]) H O O O Y Ak underlying55 Ig ?_
 intro po _ H';clear H;have H:=H';clear H'
 refine En O (Au (AP (Aw (CY O (s_call O (avK _ _ _ ws _ ((H.sees (m:=1) 1 O (F:=[]) J (fun _=>rfl) J)) hlen Y) (axB O) ?_)))))
 rintro e W1 ⟨A',c',rs,rfl,hrs,H'⟩
 refine⟨_,rfl,?_⟩
 have H:=H.more (A:=[_,_]) H';clear H';simp only[Bv]at H
 refine Di O underlying97 (tV ?_)
 obtain⟨br,hAr,hlr,H2⟩:=am' Y H
 clear H
 have H:=H2
 clear H2
 have hbody:Im.body ws=Im.encs (rs.map IE.P):=by rw[hrs];rfl
 refine Ec (fun z f W=>∃(j:Nat) (A2:Option Addr) (c2 q:Nat) (l:List Int),j≤rs.length∧z=rs.length-j∧l=Im.magic::(ws.length:Int)::Im.encs ((rs.take j).map IE.P)∧q=l.length∧f 4= .slice A2 q c2∧f 14= .slice A' rs.length c'∧f 15= .int .i64 rs.length∧f 16= .int .i64 j∧Heap w [] [vec C1.v br (rs.flatMap IE.C) 100,grp (rs.map IE.E),Dw 1 (.slice A2 q c2) q (l.map (Value.int .u64)) 26,vec (Value.int .u64) ba ws 26] W) rs.length ⟨0,some ⟨po,0,none⟩,2,2,[Im.magic,(ws.length:Int)],Y,rfl,rfl,rfl,rfl,rfl,rfl,rfl,by rw[hlen];exact H⟩ ?_
 clear H
 rintro z f W ⟨j,A2,c2,q,l,hj,rfl,hl,hq,f4,f14,f15,f16,H⟩
 obtain⟨f,rfl⟩:=Ih f4 f14 f15 f16
 clear f4 f14 f15 f16
 have hqb:q≤(Im.body ws).length+2:=by
  rw[hq,hl,hbody]
  have e:rs.map IE.P=(rs.take j).map IE.P++(rs.drop j).map IE.P:=by rw[←BU,F5]
  rw[e,abJ]
  simp only[Em,Cm]
  omega
 have hrb:rs.length≤(Im.body ws).length:=by
  rw[hbody];simpa using ais (rs.map IE.P)
 by_cases hlt:j<rs.length
 ·obtain⟨r,hr⟩:∃r,rs[j]? =some r:=⟨_,Ar hlt⟩
  obtain rfl:=hAr Y
  have hrl:r.l.length≤(Im.body ws).length:=by
   rw[hbody]
   have e:rs.map IE.P=(rs.take j).map IE.P++IE.P r::(rs.drop (j+1)).map IE.P:=by
    rw[←Dx,←BU]
    congr 1
    have:rs.drop j=r::rs.drop (j+1):=by
     rw[Hy hlt]
     congr 1
     rw[Ar hlt]at hr;simpa using hr
    rw[←this,F5]
   rw[e,abJ]
   simp only[Cm,Im.encs,FW,Im.enc1,IE.P,Em]
   omega
  have hrz:=apS _ ws (Bg _) (IE.P r) (by rw[←hrs];exact BX.2 ⟨r,A8 hr,rfl⟩)
  simp only[IE.P]at hrz
  refine ak ?_
  refine AL (PS O O O Y underlying97 aiy) (AL (SB (enc:=C1.v) (zs:=r.C) (ahW H 0 O hr) O O ap1 aiy) (Ea H O ahv fun p6 _ H=>Eh H 0 O O O O O O O aiy ?_))
  clear H;refine ayJ fun _ H=>?_
  refine Au (Aw (CY O (BR O aeB (mQ ?_))))
  refine iC ?_
  refine BR O Ws (BD H 0 O O O JE (Di O underlying55 (iC ?_)))
  refine aq5 (enc:=(Value.int .u64)) (zs:=[(r.z:Int),(r.l.length:Int)]) H 3 O O O O Y Ak (fun _=>rfl) (fun _=>rfl) (fun _=>rfl) O Y underlying55 Ig O ?_
  clear H;intro _ An cn _ H;simp only[Bv,Nat.reduceAdd]at H
  refine En O (Au (DR (CY O (BR O Ws (BD H 0 O O O JE (adA (enc:=(Value.int .u64)) H 3 O O O O (DW.KJ (H.Bl 2 O) (arf hr)) (O) (fun _=>rfl) Y underlying55 Ig O ?_))))))
  clear H;intro _ _ _ H;simp only[Bv,Nat.reduceAdd]at H
  refine En O (vG ?_)
  refine⟨_,_,?_,rfl,j+1,_,_,_,_,Y,rfl,?_,?_,rfl,rfl,rfl,rfl,H.drop⟩
  ·omega
  ·rw[hl,Fj,hr]
   simp[abJ,Im.encs,Im.enc1,IE.P]
  ·simp[hq];omega
 ·obtain rfl:j=rs.length:=Y
  have hl2:l=Im.head ws:=by
   rw[hl,DL,←hbody];rfl
  have hsum:=Im.Sr (Im.head ws)
  rw[hl2]at H hq
  have hql:(Im.head ws++ [Im.sum (Im.head ws)]).length=q+1:=by rw[hq];simp
  refine uS ?_
  refine CY O (CY O (BI H O (YF A2 q c2 (Im.head ws) _ (H.KJ 2 O) hq.symm hhU Y) (aj1 O) fun W1 H=>iC ?_))
  refine O7 (enc:=(Value.int .u64)) H 2 O O O O O O O Y underlying55 Ig O ?_
  clear H;intro _ An cn _ H;simp only[Bv,Nat.reduceAdd]at H
  refine En O (Au (Aw (CY O (s_call O (ar5 _ _ _ (Im.out ws) _ (H.KJ 2 O) hql hoU Y) (aw8 O) ?_))))
  rintro e W1 ⟨Ab,cb,rfl,H'⟩
  refine⟨_,rfl,?_⟩
  have H:=H.more (A:=[_]) H';clear H'
  refine oZ ?_
  exact⟨_,_,rfl,H.drops⟩
end
end
section
section
open Go.RowKit
end
end
end Go.Proofs.YtppilhpcmkekbaaGreat
