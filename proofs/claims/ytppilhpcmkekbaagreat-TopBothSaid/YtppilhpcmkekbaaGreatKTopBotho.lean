/- Parts of the proof. -/
import Derived.Test.YtppilhpcmkekbaaGreatKTopBothl
import Derived.Test.YtppilhpcmkekbaaGreatKTopBothn
set_option linter.unusedSimpArgs false
set_option linter.unusedVariables false
set_option linter.unusedSectionVars false
set_option maxRecDepth 100000
set_option maxHeartbeats 16000000
namespace Go.Proofs.YtppilhpcmkekbaaGreat
open Go.Proofs.Tryz
section
section
open Go.RowKit
def EN(l:List Int)(a:Nat):Nat→List Int
 |0=> []
 |k+1=>EN l a k++ [Nv.get l ((a:Int)+(k:Int))]
theorem Nc(l:List Int)(a:Nat):∀k,(EN l a k).length=k
 |0=>rfl
 |k+1=>by rw[EN,Cj,Nc l a k];rfl
theorem aje(l:List Int)(a k:Nat)(hk:k<16):(EN l a k++List.replicate (16-k) 0).set k (Nv.get l ((a:Int)+(k:Int)))=EN l a (k+1)++List.replicate (16-(k+1)) 0:=by
 rw[List.set_append,if_neg (by rw[Nc];omega),Nc,Hw,show 16-k=(16-(k+1))+1 by omega,Gz,Bf,EN,EK]
 rfl
theorem avg{l:List Int}(h:Im.U l)(a:Int):0≤Nv.get l a∧Nv.get l a≤18446744073709551615:=by
 unfold Nv.get
 split
 ·rename_i hh
  rw[BN,Ba Y]
  exact h _ (KH _)
 ·omega
theorem adL{l:List Int}(h:Im.U l)(a:Nat):∀k,Im.U (EN l a k)
 |0=>fun x hx=>by cases hx
 |k+1=>fun x hx=>by
  rw[EN]at hx
  rcases Ci.1 hx with hx|hx
  ·exact adL h a k x hx
  ·rw[Bz.1 hx];exact avg h _
section
variable{P:Program}{n:Sz}{f:Nat→Value}{W:World}{dst:Option Tmp}{ty:TypeId}{pos:String}{af:Array Edge}{g:Option (Nat×Bool)}{x y:Operand}{k:IntKind}{a b c:Int}{t t2:TypeId}
theorem abz(hx:ev n f x= .int k a)(hy:ev n f y= .int k b)(hr:k.wrap (((a%2^k.bits).toNat&&&(b%2^k.bits).toNat:Nat):Int)=c):(execOp (ev n f) ⟨dst,.binOp .and t x y t2,ty,pos,af,g⟩).run P W= .ok (.value (.int k c)) W:=by
 simp[execOp,hx,hy,eqGuard,binOp,Op.intBits,hr]
end
theorem adG(i:Nat)(w:World)(hi:i=0∨i=1):
 Calls prog 202 [.int .i64 i].toArray w fun e w'=>e= .returned (.int .i64 ((64+64*i:Nat):Int))∧Only [] w w':=by
 have H:=Heap.nil w
 rcases hi with rfl|rfl
 ·refine BO 7 func202 O (oM ?_)
  refine AP (AQ O (AV (abz (c:=0) O O Aw) (AV (Ya O O (wI Y)) (dw ?_))))
  refine eu ?_
  exact⟨rfl,H.only⟩
 ·refine BO 7 func202 O (oM ?_)
  refine AP (AQ O (AV (abz (c:=1) O O Aw) (AV (Ya O O (wI Y)) (dw ?_))))
  refine eu ?_
  exact⟨rfl,H.only⟩
theorem apQ(g:Geo)(d:Nv.D)(i:Nat)(w:World)(hE:Dj (Dy g d) w)(hi:i=0∨i=1):
 Calls prog 136 [ptr g.p,.int .i64 i].toArray w fun e w'=>e= .returned (.agg ((EN d.cache (64+64*i) 16).map (Value.int .u64)).toArray)∧Only [] w w':=by
 have HR:=Heap.start hE
 have H:=Heap.nil w
 have hS:=fun w=>adG i w hi
 have hb:64+64*i≤128:=Y
 generalize 64+64*i=a at*
 refine BO 20 func136 O (AP (Ei H O agI fun p4 _ H=>AO (AP (Ei H O agI fun p5 _ H=>AO (iQ ?_)))))
 refine AO (E8 (EO (fun z f W=>∃k:Nat,k≤16∧z=16-k∧f 0=ptr g.p∧f 1= .int .i64 i∧f 4=ptr p4∧f 5=ptr p5∧f 7= .int .i64 k∧Heap w [] [blk p5 ((EN d.cache a k++List.replicate (16-k) 0).map (Value.int .u64)) 217,blk p4 ((List.replicate 16 0).map (Value.int .u64)) 217] W) 16 ⟨0,Y,rfl,rfl,rfl,rfl,rfl,rfl,H⟩ ?_))
 clear H
 rintro z f W ⟨k,hk,rfl,f0,f1,f4,f5,f7,H⟩
 obtain⟨f,rfl⟩:=OJ f0 f1 f4 f5 f7
 clear f0 f1 f4 f5 f7
 by_cases hlt:k<16
 ·obtain⟨c8,hv8⟩:∃c0,((EN d.cache a k++List.replicate (16-k) 0).map (Value.int .u64))[k]? =some c0:=⟨_,Ba (by rw[DL,Cj,Nc,Dn];omega)⟩
  refine nR ?_
  refine AO (DF (AQ O (Bg O (AQ O (BL H O (hS _) (afO O) fun W1 H=>mZ ?_)))))
  refine BL H O (aaM g d ((a:Int)+(k:Int)) _ (HR.same H.only).ents) (SG O) fun W1 H=>AV (Ot (i:=k) O O Y Y underlying217 MB) (Ik (u:= .int _ _) H 0 O O O O hv8 O MB ?_)
  clear H;refine axS fun _ H=>?_
  refine AZ (aS ?_)
  rw[←G7,aje d.cache a k hlt]at H
  refine⟨_,_,?_,rfl,k+1,Y,rfl,rfl,rfl,rfl,rfl,rfl,H⟩
  omega
 ·obtain rfl:k=16:=Y
  rw[Hw,P8,Dl]at H
  have aw1:=Nc d.cache a 16
  generalize EN d.cache a 16=q at*
  obtain⟨l0,l1,l2,l3,l4,l5,l6,l7,l8,l9,l10,G9,l12,I9,I8,l15,rfl⟩:=aeJ aw1
  refine oh ?_
  refine Dw H 0 O O O Ti QE (En H 1 O O O O O O O QE ?_)
  clear H;refine axS fun _ H=>?_
  refine AO (BM (abJ O (JB H 1 O O O Ti QE) ?_))
  exact⟨rfl,H.only⟩
end
end
section
section
open Go.RowKit
section
variable{P:Program}{ops:Array Oper}{rest':List Oper}{n:Sz}{f:Nat→Value}{W w0:World}{F:List Nat}{L:List FU}{Q':Exit→Act→World→Prop}{dst:Option Tmp}{ty:TypeId}{pos:String}{af:Array Edge}{g:Option (Nat×Bool)}{x y:Operand}{t:TypeId}
theorem agx{p i:Nat}{l:List Ob.H3}{rs:List Value}{q:Ob.H3}(H:Heap w0 F L W)(j:Nat)(hx:ev n f x= .pointer (some ⟨p,i*3,none⟩))(hj:L[j]? =some (hrow p l rs))(hq:l[i]? =some q)(hagg:∀W,(isAgg t).run P W= .ok true W)(hsz:∀W,(Go.sizeOf t).run P W= .ok 3 W):
 (execOp (ev n f) ⟨dst,.load t x,ty,pos,af,g⟩).run P W= .ok (.value (.agg (Ob.hcell q).toArray)) W:=
 JY H j hx hj (afD hq) rfl hagg hsz
theorem arO{p i:Nat}{l:List Ob.H3}{rs:List Value}{q:Ob.H3}(H:Heap w0 F L W)(j:Nat)(hw:Region.wanted ⟨none,.store t x y,ty,pos,af,g⟩ (yl n f ops)=true)(hx:ev n f x= .pointer (some ⟨p,i*3,none⟩))(hy:ev n f y= .agg (Ob.hcell q).toArray)(hj:L[j]? =some (hrow p l rs))(hi:i<l.length)(hs:∀W,(Go.sizeOf t).run P W= .ok 3 W)
 (h:∀W',Heap w0 F (L.set j (hrow p (l.set i q) rs)) W'→SL P ops Q' rest' n f W'):SL P ops Q' (⟨none,.store t x y,ty,pos,af,g⟩::rest') n f W:=by
 refine Va (vs:=Ob.hcell q) H j hw hx hy hj O O (Nat.ble_eq_true_of_le (by rw[Cj,VG];simp[Ob.hcell];omega)) hs fun W' H'=>h W' ?_
 have e:(Ob.hcell q).length=3:=rfl
 rw[e,aeD q hi]at H'
 exact H'
end
theorem Wi(n b:Int)(w:World)(hn:0≤n∧n≤1000000)(hb:1≤b∧b<n):
 Calls prog 134 [.agg [.int .i64 n].toArray,.int .i64 b].toArray w fun e w'=>e= .returned (.int .i64 (256+b))∧Only [] w w':=by
 have H:=Heap.nil w
 refine BO 15 func134 O (AP (D9 H O O fun p2 _ H=>bV ?_))
 refine Bo 7 O (Gm O) (Bo 7 O (Cm O QU) (Bo 7 O (DR H 0 O O O FM) (Bo 7 O (Fz O O Y) (gQ ?_))))
 refine AP (mZ ?_)
 refine eu ?_
 exact⟨rfl,H.only⟩
theorem avf(b x:Int)(w:World)(hb:0≤b∧b≤1000000)(hx:0≤x∧x≤18446744073709551615):
 Calls prog 132 [.int .i64 b,.int .u64 x].toArray w fun e w'=>e= .returned (.tuple [.agg [.int .i64 (Bh.adC x (256+b)),.int .i64 (Bh.aeF x (256+b)),.int .i64 (Bh.aey x (256+b))].toArray,.int .i64 (Bh.MJ x (256+b))].toArray)∧Only [] w w':=by
 have e:Bh.atB b=256+b:=wI Y
 have h:=amw b x w Y Y hx.1 hx.2
 rw[e]at h
 exact h.mono fun e w' h=>⟨h.1,Only.of_below h.2 _⟩
theorem anb(b k c l:Int)(w:World)(hb:0≤b∧b≤1000000)(h:Bh.right k c l=true):
 Calls prog 162 [.int .i64 b,.agg [.int .i64 k,.int .i64 c,.int .i64 l].toArray].toArray w fun e w'=>e= .returned (.int .u64 (Bh.enc k c l (256+b)))∧Only [] w w':=by
 have e:Bh.atB b=256+b:=wI Y
 have hr:=Bh.SB k c l h
 have h:=aax b k c l w Y Y Y Y Y Y Y Y
 rw[e]at h
 exact h.mono fun e w' h=>⟨h.1,Only.of_below h.2 _⟩
theorem ait(k c l:Int)(w:World)(hr:Bh.right k c l=true):
 Calls prog 223 [.agg [.int .i64 k,.int .i64 c,.int .i64 l].toArray].toArray w fun e w'=>e= .returned (.bool true)∧Only [] w w':=by
 have hb:=Bh.SB k c l hr
 have h:=WI k c l w Y Y Y Y Y Y
 rw[hr]at h
 exact h.mono fun e w' h=>⟨h.1,Only.of_below h.2 _⟩
theorem ams{hs:List Ob.H3}{z:Ob.H3}{i n:Nat}{h:Ob.H3}(hl:hs.length=n)(hh:hs[i]? =some h):(hs.take i++List.replicate (n-i) z).set i h=hs.take (i+1)++List.replicate (n-(i+1)) z:=by
 have hi:=(BK.1 hh).1
 have h1:(hs.take i).length=i:=by rw[Ed];omega
 rw[LG _ _ Y,h1,Hw,show n-i=(n-(i+1))+1 by omega,Gz,Bf,←KT hh,EK];rfl
structure aer (c:List Int) (hs:List Ob.H3):Prop where
 h0:hs[0]? =some (0,0,0)
 at_:∀(b:Nat) (h:Ob.H3),1≤b→hs[b]? =some h→Bh.right h.1 h.2.1 h.2.2=true∧Nv.get c (256+(b:Int))=Bh.enc h.1 h.2.1 h.2.2 (256+(b:Int))
theorem amv(g:Geo)(d:Nv.D)(n:Nat)(hs:List Ob.H3)(w:World)(hE:Dj (Dy g d) w)(hw:Ob.Qv d.cache)(hk:aer d.cache hs)(hl:hs.length=n)(hn:1≤n∧n≤1000):
 Calls prog 173 [ptr g.p,.agg [.int .i64 n].toArray].toArray w fun e w'=>∃p c rs,e= .returned (.tuple #[.slice (some ⟨p,0,none⟩) n c,.int .i64 0,.int .i64 0])∧n≤c∧Heap w [] [hrow p hs rs] w':=by
 have HR:=Heap.start hE
 have H:=Heap.nil w
 have hDv:=fun{W:World} (hO:Only [] w W)=>((Heap.start hE).same hO).ents
 refine BO 39 func173 O (AP (D9 H O O fun p3 _ H=>EM O (kG ?_)))
 refine AP (BI O QU (fV ?_))
 refine Hu O O (Xr (c:=(n:Int)) O O zW) (aql (Value.int .i64) 0 3 (m:=n) H O O O Y Y Y underlying128 Jf O Y ?_)
 intro p _ H';clear H;have H:=H';clear H'
 refine EM O (AO (vT ?_))
 obtain⟨rs,H⟩:=H.ahZ (by rw[Dn];omega)
 rw[←afc]at H
 replace H:Heap w [] [hrow p (List.replicate n (0,0,0)) rs,_] _:=H
 have e1:hs.take 1++List.replicate (n-1) (0,0,0)=List.replicate n (0,0,0):=by
  have h1:hs.take 1=[(0,0,0)]:=by rw[←KT hk.h0];rfl
  rw[h1,show n=(n-1)+1 by omega,Gz];rfl
 rw[←e1]at H
 refine EO (fun z f W=>∃(i:Nat),1≤i∧i≤n∧z=n-i∧f 0=ptr g.p∧f 3= .pointer (some ⟨p3,0,none⟩)∧f 7= .slice (some ⟨p,0,none⟩) n n∧f 8= .int .i64 i∧Heap w [] [hrow p (hs.take i++List.replicate (n-i) (0,0,0)) rs,blk p3 [.int .i64 n] 79] W) (n-1) ⟨1,Y,Y,rfl,rfl,rfl,rfl,rfl,H⟩ ?_
 clear H
 rintro z f W ⟨i,hi1,hi,rfl,f0,f3,f7,f8,H⟩
 obtain⟨f,rfl⟩:=Jj f0 f3 f7 f8
 clear f0 f3 f7 f8
 by_cases hin:i<n
 ·obtain⟨h,hh⟩:∃h,hs[i]? =some h:=⟨_,Ba Y⟩
  obtain⟨hr,he⟩:=hk.at_ i h hi1 hh
  have hgb:=Ob.Yx hw (256+(i:Int))
  have hG:=fun{W:World} (hO:Only [] w W)=>aaM g d (256+(i:Int)) W (hDv hO)
  have hD:=fun(W:World)=>avf i (Nv.get d.cache (256+(i:Int))) W Y hgb
  obtain⟨d1,d2,d3,d4⟩:=Bh.Rt h.1 h.2.1 h.2.2 (256+(i:Int)) hr
  rw[he,d1,d2,d3,d4]at hD
  rw[he]at hG
  have hlen:i<(hs.take i++List.replicate (n-i) (0,0,0)).length:=by rw[Cj,Ed,Dn];omega
  refine iQ ?_
  refine BI O QU (BG H 1 O O O FM (fC ?_))
  refine AP (AQ O (Bg O (ou ?_)))
  refine BL H O (Wi n i _ Y Y) (MO O) fun W1 H=>BL H O (hG H.only) (SG O) fun W1 H=>BL H O (hD _) (avy O) fun W1 H=>gX ?_
  refine Ei H O Jf fun p9 _ H=>vF ?_
  clear H;refine axS fun _ H=>?_
  refine vV ?_
  refine DF (Dz O (AQ O (Dw H 0 O O O Ir Eu (AV (QX (i:=i) O O Y Y underlying128 Eu) (arO (q:=h) H 1 O O O O hlen Eu ?_)))))
  clear H;refine axS fun _ H=>?_
  refine AZ (nY ?_)
  rw[ams hl hh]at H
  exact⟨_,_,Y,rfl,i+1,Y,Y,rfl,rfl,rfl,rfl,rfl,H.drop⟩
 ·obtain rfl:i=n:=Y
  rw[Fp Y,Hw,P8,Dl]at H
  refine iQ ?_
  refine BI O QU (BG H 1 O O O FM (og ?_))
  refine AP (Dz O (EM O (kG ?_)))
  refine BM (apR (v:= .slice _ _ _) (v2:= .int _ _) (v3:= .int _ _) O O O O ?_)
  exact⟨p,_,rs,rfl,BF _,(H:Heap w [] ([_]++ [_]) _).drops⟩
end
end
section
section
open Go.RowKit
def hfl(hs:List Ob.H3):List Int:=hs.flatMap fun h=> [h.1,h.2.1,h.2.2]
theorem adH(hs:List Ob.H3):(hfl hs).map (Value.int .i64)=hcs hs:=by
 unfold hfl hcs
 rw[List.map_flatMap];rfl
theorem aac(hs:List Ob.H3):(hfl hs).length=hs.length*3:=by
 have:=congrArg List.length (adH hs)
 rwa [DL,VG]at this
theorem Heap.avJ{w0 W:World}{F:List Nat}{L:List FU}(H:Heap w0 F L W)(j:Nat){p:Nat}{hs:List Ob.H3}{rs:List Value}(hj:L[j]? =some (hrow p hs rs)):I5 (Value.int .i64) W [] (some ⟨p,0,none⟩) (hfl hs):=fun h0=>by
 have hb:W.heap[p]? =some (.cells (hcs hs++rs).toArray 209 (0,0)):=H.ok _ (BP hj)
 refine⟨p,0,rfl,J,fun i x hi=>?_⟩
 rw[EH,Joins.cell_of_block hb,Fe,←adH]
 rw[Gs (by rw[DL];exact(BK.1 hi).1),Cb,hi];rfl
theorem Heap.acL{w0 W:World}{F:List Nat}{L:List FU}(H:Heap w0 F L W)(j:Nat){A:Option Addr}{n c:Nat}{hs:List Ob.H3}{T:TypeId}(hj:L[j]? =some (Ec 3 (.slice A n c) n ((hfl hs).map (Value.int .i64)) T)):KG W [] A hs:=fun h0=>by
 obtain⟨b,e,_,hr⟩:=H.SQ j hj (by rw[aac];omega)
 refine⟨b,0,e,J,fun i h hi k u hk=>?_⟩
 have h1:=alC (rest:=[]) hi k u hk
 rw[Dl,←adH,Cb]at h1
 cases hx:(hfl hs)[i*3+k]? with
 |none=>rw[hx]at h1;cases h1
 |some x=>
  rw[hx]at h1
  injection h1 with h1
  have:=hr _ x hx
  rw[EH]at this⊢
  rw[←h1];exact this
def tbC(g:Geo)(n p c:Nat):List Value:=[ptr g.p,.int .i64 n,.slice (some ⟨p,0,none⟩) n c]
def tbE(g:Geo)(n pT p:Nat)(hs:List Ob.H3)(rs:List Value)(c:Nat):List FU:=[blk pT (tbC g n p c) 306,hrow p hs rs]
theorem asB(g:Geo)(d:Nv.D)(n:Nat)(hs:List Ob.H3)(w:World)(hE:Dj (Dy g d) w)(hw:Ob.Qv d.cache)(hk:aer d.cache hs)(hl:hs.length=n)(hn:1≤n∧n≤1000):
 Calls prog 177 [ptr g.p,.agg [.int .i64 n].toArray].toArray w fun e w'=>∃pT p c rs,e= .returned (.tuple #[ptr pT,.int .i64 0])∧n≤c∧Heap w [] (tbE g n pT p hs rs c) w':=by
 have H:=Heap.nil w
 have hDv:=fun{W:World} (hO:Only [] w W)=>((Heap.start hE).same hO).ents
 refine BO 24 func177 O (AP (D9 H O O fun p3 _ H=>Fb O (sZ ?_)))
 refine uG ?_
 refine s_call O (amv g d n hs _ (hDv H.only) hw hk hl hn) (apC O) ?_
 rintro e W1 ⟨p,c,rs,rfl,hnc,H'⟩
 refine⟨_,rfl,?_⟩
 have H:=H.more H';clear H';simp only[Bv]at H
 refine Dt O (nM ?_)
 refine CV O O (EM O (kG ?_))
 refine gI ?_
 refine AP (Bg O (Dw H 1 O O O Ic He (Dz O (AV (FI (afY _ _ _ _ _) O) (D9 H O O fun p23 _ H=>qZ ?_)))))
 exact⟨p23,p,c,rs,rfl,hnc,(H:Heap w [] ([_,_]++ [_]) _).drops⟩
section
variable{g:Geo}{n pT p c:Nat}{hs:List Ob.H3}{rs:List Value}{w:World}
theorem am9(hE:Dj (tbE g n pT p hs rs c) w):
 Calls prog 185 [ptr pT].toArray w fun e w'=>e= .returned (.int .i64 n)∧Only [] w w':=by
 have HR:=Heap.start hE
 have H:=Heap.nil w
 refine BO 8 func185 O (oM ?_)
 refine dL ?_
 refine vP ?_
 refine Eb O underlying128 (eu ?_)
 exact⟨rfl,H.only⟩
theorem ane(hE:Dj (tbE g n pT p hs rs c) w)(hl:hs.length=n)(hn:n≤1000)(b:Nat)(hb:1≤b)(h:Ob.H3)(hh:hs[b]? =some h):
 Calls prog 186 [ptr pT,.int .i64 b].toArray w fun e w'=>e= .returned (.agg (Ob.hcell h).toArray)∧Only [] w w':=by
 have HR:=Heap.start hE
 have H:=Heap.nil w
 have hbl:=(BK.1 hh).1
 refine BO 24 func186 O (AP (Ei H O Jf fun p4 _ H=>AO (iQ ?_)))
 refine AV (Di O O Y) (BX O (nX ?_))
 refine Bo 7 O (Cm O Rf) (Bo 7 O (DR (HR.same H.only) 0 O O O WB) (Bo 7 O (Gw O underlying128) (Bo 7 O (Fz O O Y) (gQ ?_))))
 refine dL ?_
 refine vP ?_
 refine AQ O (AV (QX (i:=b) O O Y Y underlying128 Eu) (AV (agx (q:=h) (HR.same H.only) 1 O O hh Ir Eu) (vF ?_)))
 clear H;refine axS fun _ H=>?_
 refine AO (BM (abJ O (JB H 0 O O O Ir Eu) ?_))
 exact⟨rfl,H.only⟩
theorem agf(hE:Dj (tbE g n pT p hs rs c) w)(hl:hs.length=n)(hn:1≤n∧n≤1000):
 Calls prog 181 [ptr pT].toArray w fun e w'=>∃(A':Option Addr) (c':Nat) (l:IL),e= .returned (.slice A' l.length c')∧UO hs n l∧Heap w [] [Ec 2 (.slice A' l.length c') l.length ((flp l).map (Value.int .i64)) 309] w':=by
 have HR:=Heap.start hE
 have H:=Heap.nil w
 refine BO 8 func181 O (AP (EM O (uj ?_)))
 refine vP ?_
 refine s_call O (aof _ n c hs _ ((HR.same H.only).al7 1 O) hl Y hn.1) (atw O) ?_
 rintro e W1 ⟨A',c',l,rfl,hk,H'⟩
 refine⟨_,rfl,?_⟩
 have H:=H.more H';clear H';simp only[Bv]at H
 refine rW ?_
 exact⟨A',c',l,rfl,hk,H⟩
theorem aqg(hE:Dj (tbE g n pT p hs rs c) w)(hl:hs.length=n)(hn:1≤n∧n≤1000):
 Calls prog 179 [ptr pT].toArray w fun e w'=>∃A' c',e= .returned (.slice A' n c')∧KG w' [] A' hs∧Only [] w w':=by
 have HR:=Heap.start hE
 have H:=Heap.nil w
 refine BO 9 func179 O (AP (EM O (AO (AP (acy 3 Y H O underlying128 Jf ?_)))))
 intro _ _ H';clear H;have H:=H';clear H'
 refine Bg O (BU O (vP ?_))
 refine amN (enc:=(Value.int .i64)) (size:=3) (xs:=[]) H 0 O O O O ((HR.avJ 1 O)) ((by rw[aac,hl])) (fun _=>rfl) Y Y underlying128 Jf O ?_
 clear H;intro A1 c1 _ H;simp only[Bv,Nat.reduceAdd]at H
 refine rW ?_
 rw[EH]at H
 exact⟨A1,c1,by rw[EH],H.acL 0 rfl,H.only⟩
end
end
end
section
section
open Go.RowKit
theorem asx{f:Nat→Value}{k1 k2 k3 k4 k5 k6 k7 k8 k9:Nat}{v1 v2 v3 v4 v5 v6 v7 v8 v9:Value}(h1:f k1=v1)(h2:f k2=v2)(h3:f k3=v3)(h4:f k4=v4)(h5:f k5=v5)(h6:f k6=v6)(h7:f k7=v7)(h8:f k8=v8)(h9:f k9=v9):∃g,f=upd (upd (upd (upd (upd (upd (upd (upd (upd g k1 v1) k2 v2) k3 v3) k4 v4) k5 v5) k6 v6) k7 v7) k8 v8) k9 v9:=⟨f,by rw[upd_same h1,upd_same h2,upd_same h3,upd_same h4,upd_same h5,upd_same h6,upd_same h7,upd_same h8,upd_same h9]⟩
theorem Dv.stored{d:Nv.D}{m:Nat}(h:Dv d m){a:Nat}(ha:a<8*m){v:Int}(hv:0≤v∧v≤18446744073709551615):∃d',Nv.store d m a v=(d',0)∧ZB d d' m a v:=
 ⟨_,by rw[←(h.store ha hv).1],(h.store ha hv).2⟩
theorem Dv.persisted{d:Nv.D}{m:Nat}(h:Dv d m){a n:Nat}(ha:a+n≤8*m):∃d',Nv.persist d m a n=(d',0)∧Per d d' m a n:=
 ⟨_,by rw[←(h.persist ha).1],(h.persist ha).2⟩
theorem Ua{g:Geo}{d d':Nv.D}{m a:Nat}{v:Int}{w:World}(hE:Dj (Dy g d) w)(hD:Dv d m)(hm:m≤100000)(he:Nv.store d m a v=(d',0)):
 Calls prog 161 [ptr g.p,.int .i64 a,.int .u64 v].toArray w fun e w'=>e= .returned (.int .i64 0)∧Heap w (ids (Dy g d)) (Dy g d') w':=by
 have h:=YO g d m a v w hE hD.I.ok hm
 rw[he]at h
 exact h
theorem V4{g:Geo}{d d':Nv.D}{m a n:Nat}{w:World}(hE:Dj (Dy g d) w)(hD:Dv d m)(hg:Q5 g m)(hm:m≤100000)(he:Nv.persist d m a n=(d',0)):
 Calls prog 163 [ptr g.p,.int .i64 a,.int .i64 n].toArray w fun e w'=>e= .returned (.int .i64 0)∧Heap w (ids (Dy g d)) (Dy g d') w':=by
 have h:=U3 g d m a n w hE hD.I.ok hg hm
 rw[he]at h
 exact h
section
variable{g:Geo}{d:Nv.D}{m n pT p c:Nat}{hs:List Ob.H3}{rs:List Value}{w:World}
theorem aed(hE:Dj (grp (Dy g d)::tbE g n pT p hs rs c) w)(hD:Dv d m)(hg:Q5 g m)(hm:m≤100000)(hnm:256+n≤8*m)(hl:hs.length=n)(hn:n≤1000)(b:Nat)(hb:1≤b∧b<n)(h:Ob.H3)(hr:Bh.right h.1 h.2.1 h.2.2=true)
 (LA:Option Addr) (lc:Nat) (hS:KG w (ids (grp (Dy g d)::tbE g n pT p hs rs c)) LA [h]):
 Calls prog 263 [ptr pT,.int .i64 b,.slice LA 1 lc].toArray w fun e w'=>∃d1 d2,ZB d d1 m (256+b) (Bh.enc h.1 h.2.1 h.2.2 (256+(b:Int)))∧Per d1 d2 m (256+b) 1∧e= .returned (.int .i64 0)∧Heap w (ids (grp (Dy g d)::tbE g n pT p hs rs c)) (grp (Dy g d2)::tbE g n pT p (hs.set b h) rs c) w':=by
 have H:=Heap.start hE
 have hrb:=Bh.SB _ _ _ hr
 have heb:=Bh.abr h.1 h.2.1 h.2.2 (256+(b:Int))
 obtain⟨d1,e1,h1⟩:=hD.stored (a:=256+b) Y heb
 obtain⟨d2,e2,h2⟩:=h1.D.persisted (a:=256+b) (n:=1) Y
 obtain⟨q,o,rfl,hqF,auj⟩:=hS J
 have hrd:=auj 0 h rfl
 rw[show o+0*3=o by omega]at hrd
 clear hS auj
 have hbl:b<hs.length:=Y
 unfold tbE tbC at H hqF⊢
 generalize ids _=I at*
 refine BO 99 func263 O (AP (bV ?_))
 refine Bo 14 O (Gm O) (Bo 14 O (Ls O) (Bo 14 O (DT O) (Bo 14 O (Cm O Rf) (Bo 14 O (DR H 1 O O O WB) (Bo 14 O (Gw O underlying128) (Bo 14 O (Jy O O Y) (DW O O (BX O (Bo 23 O (rms O) (Bo 23 O (Gw O underlying128) (Bo 23 O (Ls O) (Bo 23 O (DT O) (Bo 23 O (Cm O Rf) ?_)))))))))))))
 refine Bo 23 O (DR H 1 O O O WB) (Bo 23 O (Gw O underlying128) (Bo 23 O (Gm O) (Bo 23 O (Gu O O (wI Y)) (Bo 23 O (Jy O O Y) (gQ ?_)))))
 refine A8 (AP (Dz O (Eb O underlying128 (xH ?_))))
 refine EO (fun z f W=>∃(i:Nat),i≤1∧z=1-i∧f 0=ptr pT∧f 1= .int .i64 b∧f 2= .slice (some ⟨q,o,none⟩) 1 lc∧f 35= .slice (some ⟨q,o,none⟩) 1 lc∧f 36= .int .i64 1∧f 37= .int .i64 i∧Heap w I [grp (Dy g d),blk pT [ptr g.p,.int .i64 n,.slice (some ⟨p,0,none⟩) n c] 306,hrow p hs rs] W) 1 ⟨0,Y,rfl,rfl,rfl,rfl,rfl,rfl,rfl,H⟩ ?_
 clear H
 rintro z f W ⟨i,hi,rfl,f0,f1,f2,f35,f36,f37,H⟩
 obtain⟨f,rfl⟩:=XC f0 f1 f2 f35 f36 f37
 clear f0 f1 f2 f35 f36 f37
 by_cases h0:i=0
 ·subst h0
  refine aB ?_
  refine nK ?_
  refine Ei H O Jf fun p8 _ H=>tH ?_
  clear H;refine axS fun _ H=>?_
  refine AO (AP (Dw H 0 O O O Ir Eu (BL H O (ait _ _ _ _ hr) (apZ O) fun W1 H=>AV (Ea O) (AO (o8 ?_)))))
  exact⟨_,_,Y,rfl,1,Y,rfl,rfl,rfl,rfl,rfl,rfl,rfl,H.drop⟩
 ·obtain rfl:i=1:=Y
  refine aU ?_
  refine AX (A8 (AP (Dz O (Eb O underlying128 (kC ?_)))))
  refine A8 (AP (Dz O (Eb O underlying128 (xH ?_))))
  have XG:=fun(W:World)=>Wi n b W Y Y
  have XR:=fun(W:World)=>anb b h.1 h.2.1 h.2.2 W Y hr
  have awu:(256:Int)+(b:Int)=((256+b:Nat):Int):=Y
  rw[awu]at XG
  have hSt:=fun{W:World} hE=>Ua (g:=g) (w:=W) hE hD hm e1
  have hPe:=fun{W:World} hE=>V4 (g:=g) (w:=W) hE h1.D hg hm e2
  refine EO (fun z f W=>∃(i:Nat),i≤1∧z=1-i∧f 0=ptr pT∧f 1= .int .i64 b∧f 2= .slice (some ⟨q,o,none⟩) 1 lc∧f 48= .slice (some ⟨q,o,none⟩) 1 lc∧f 49= .int .i64 1∧f 50= .int .i64 i∧Heap w I [grp (Dy g (if i=0 then d else d1)),blk pT [ptr g.p,.int .i64 n,.slice (some ⟨p,0,none⟩) n c] 306,hrow p (if i=0 then hs else hs.set b h) rs] W) 1 ⟨0,Y,rfl,rfl,rfl,rfl,rfl,rfl,rfl,H⟩ ?_
  clear H
  rintro z f W ⟨i,hi,rfl,f0,f1,f2,f48,f49,f50,H⟩
  obtain⟨f,rfl⟩:=XC f0 f1 f2 f48 f49 f50
  clear f0 f1 f2 f48 f49 f50
  by_cases h0:i=0
  ·subst h0
   rw[if_pos rfl,if_pos rfl]at H
   refine aB ?_
   refine AQ O (nK ?_)
   refine Ei H O Jf fun p10 _ H=>AY O (tH ?_)
   clear H;refine axS fun _ H=>?_
   refine AO (A8 (A8 ?_))
   refine Gl (fun f W=>f 0=ptr pT∧f 1= .int .i64 b∧f 2= .slice (some ⟨q,o,none⟩) 1 lc∧f 9= .int .i64 0∧f 10=ptr p10∧f 11= .int .i64 0∧f 48= .slice (some ⟨q,o,none⟩) 1 lc∧f 49= .int .i64 1∧f 50= .int .i64 0∧Heap w I [blk p10 [.int .i64 h.1,.int .i64 h.2.1,.int .i64 h.2.2] 209,grp (Dy g d1),blk pT [ptr g.p,.int .i64 n,.slice (some ⟨p,0,none⟩) n c] 306,hrow p hs rs] W) ?_ ?_
   ·refine G5 mixed ?_;replace H:=H.drew
    refine bg ?_
    refine CZ 2 O O O (fun _ hS=>Cm O aiM) trivial (lU ?_)
    refine CZ 6 O O O (fun _ hS=>Cm O air) trivial (CZ 8 O O O (fun _ hS=>Cc (v:= .int _ _) O) trivial (CZ 9 O O O (fun _ hS=>Cc (v:= .int _ _) O) trivial (CZ 10 O O O (fun _ hS=>Dq O O (wI Y)) trivial (CZ 12 O O O (fun _ hS=>Cc (v:= .int _ _) O) trivial (CZ 13 O O O (fun _ hS=>Cc (v:= .int _ _) O) trivial (CZ 14 O O O (fun _ hS=>Dq O O (wI Y)) trivial ?_))))))
    refine Vw 3 7 15 Aw ?_ ?_ ?_
    ·refine mY ?_
     refine Et 7 15 ?_ ?_
     ·refine CB O (nD ?_)
      refine Et 11 15 ?_ ?_
      ·refine CB O (BL H O (XG _) (MO O) fun W1 H=>ak ?_)
       refine BD 15 O (kQ ?_)
       refine BD 16 O (BL H O (XR _) (Oo O) fun W1 H=>dM ?_)
       rintro e W1 ⟨rfl,H'⟩
       refine⟨_,rfl,?_⟩
       have H:=H.CX 1 rfl H';clear H';simp only[Bv]at H
       refine jU ?_
       exact⟨rfl,rfl,rfl,rfl,rfl,rfl,rfl,rfl,rfl,H⟩
      ·refine CB O (kQ ?_)
       refine BD 11 O (BL H O (XG _) (MO O) fun W1 H=>ak ?_)
       refine BD 16 O (BL H O (XR _) (Oo O) fun W1 H=>dM ?_)
       rintro e W1 ⟨rfl,H'⟩
       refine⟨_,rfl,?_⟩
       have H:=H.CX 1 rfl H';clear H';simp only[Bv]at H
       refine jU ?_
       exact⟨rfl,rfl,rfl,rfl,rfl,rfl,rfl,rfl,rfl,H⟩
     ·refine CB O (kQ ?_)
      refine BD 7 O (nD ?_)
      refine BD 11 O (BL H O (XG _) (MO O) fun W1 H=>ak ?_)
      refine BD 16 O (BL H O (XR _) (Oo O) fun W1 H=>dM ?_)
      rintro e W1 ⟨rfl,H'⟩
      refine⟨_,rfl,?_⟩
      have H:=H.CX 1 rfl H';clear H';simp only[Bv]at H
      refine jU ?_
      exact⟨rfl,rfl,rfl,rfl,rfl,rfl,rfl,rfl,rfl,H⟩
    ·refine CB O (nD ?_)
     refine Vw 3 11 15 Aw ?_ ?_ ?_
     ·refine mY ?_
      refine Et 11 15 ?_ ?_
      ·refine CB O (BL H O (XG _) (MO O) fun W1 H=>ak ?_)
       refine BD 15 O (kQ ?_)
       refine BD 16 O (BL H O (XR _) (Oo O) fun W1 H=>dM ?_)
       rintro e W1 ⟨rfl,H'⟩
       refine⟨_,rfl,?_⟩
       have H:=H.CX 1 rfl H';clear H';simp only[Bv]at H
       refine jU ?_
       exact⟨rfl,rfl,rfl,rfl,rfl,rfl,rfl,rfl,rfl,H⟩
      ·refine CB O (kQ ?_)
       refine BD 11 O (BL H O (XG _) (MO O) fun W1 H=>ak ?_)
       refine BD 16 O (BL H O (XR _) (Oo O) fun W1 H=>dM ?_)
       rintro e W1 ⟨rfl,H'⟩
       refine⟨_,rfl,?_⟩
       have H:=H.CX 1 rfl H';clear H';simp only[Bv]at H
       refine jU ?_
       exact⟨rfl,rfl,rfl,rfl,rfl,rfl,rfl,rfl,rfl,H⟩
     ·refine CB O (BL H O (XG _) (MO O) fun W1 H=>ak ?_)
      refine Et 3 15 ?_ ?_
      ·refine mY ?_
       refine BD 15 O (kQ ?_)
       refine BD 16 O (BL H O (XR _) (Oo O) fun W1 H=>dM ?_)
       rintro e W1 ⟨rfl,H'⟩
       refine⟨_,rfl,?_⟩
       have H:=H.CX 1 rfl H';clear H';simp only[Bv]at H
       refine jU ?_
       exact⟨rfl,rfl,rfl,rfl,rfl,rfl,rfl,rfl,rfl,H⟩
      ·refine CB O (kQ ?_)
       refine Et 3 16 ?_ ?_
       ·refine mY ?_
        refine BD 16 O (BL H O (XR _) (Oo O) fun W1 H=>dM ?_)
        rintro e W1 ⟨rfl,H'⟩
        refine⟨_,rfl,?_⟩
        have H:=H.CX 1 rfl H';clear H';simp only[Bv]at H
        refine jU ?_
        exact⟨rfl,rfl,rfl,rfl,rfl,rfl,rfl,rfl,rfl,H⟩
       ·refine CB O (BL H O (XR _) (Oo O) fun W1 H=>lY ?_)
        refine BG H 2 O O O J7 (dM ?_)
        rintro e W1 ⟨rfl,H'⟩
        refine⟨_,rfl,?_⟩
        have H:=H.CX 1 rfl H';clear H';simp only[Bv]at H
        refine jU ?_
        exact⟨rfl,rfl,rfl,rfl,rfl,rfl,rfl,rfl,rfl,H⟩
     ·refine CB O (kQ ?_)
      refine Et 3 11 ?_ ?_
      ·refine mY ?_
       refine BD 11 O (BL H O (XG _) (MO O) fun W1 H=>ak ?_)
       refine BD 16 O (BL H O (XR _) (Oo O) fun W1 H=>dM ?_)
       rintro e W1 ⟨rfl,H'⟩
       refine⟨_,rfl,?_⟩
       have H:=H.CX 1 rfl H';clear H';simp only[Bv]at H
       refine jU ?_
       exact⟨rfl,rfl,rfl,rfl,rfl,rfl,rfl,rfl,rfl,H⟩
      ·refine CB O (BL H O (XG _) (MO O) fun W1 H=>ak ?_)
       refine Et 3 16 ?_ ?_
       ·refine mY ?_
        refine BD 16 O (BL H O (XR _) (Oo O) fun W1 H=>dM ?_)
        rintro e W1 ⟨rfl,H'⟩
        refine⟨_,rfl,?_⟩
        have H:=H.CX 1 rfl H';clear H';simp only[Bv]at H
        refine jU ?_
        exact⟨rfl,rfl,rfl,rfl,rfl,rfl,rfl,rfl,rfl,H⟩
       ·refine CB O (BL H O (XR _) (Oo O) fun W1 H=>lY ?_)
        refine BG H 2 O O O J7 (dM ?_)
        rintro e W1 ⟨rfl,H'⟩
        refine⟨_,rfl,?_⟩
        have H:=H.CX 1 rfl H';clear H';simp only[Bv]at H
        refine jU ?_
        exact⟨rfl,rfl,rfl,rfl,rfl,rfl,rfl,rfl,rfl,H⟩
    ·refine CB O (kQ ?_)
     refine Et 3 7 ?_ ?_
     ·refine mY ?_
      refine BD 7 O (nD ?_)
      refine BD 11 O (BL H O (XG _) (MO O) fun W1 H=>ak ?_)
      refine BD 16 O (BL H O (XR _) (Oo O) fun W1 H=>dM ?_)
      rintro e W1 ⟨rfl,H'⟩
      refine⟨_,rfl,?_⟩
      have H:=H.CX 1 rfl H';clear H';simp only[Bv]at H
      refine jU ?_
      exact⟨rfl,rfl,rfl,rfl,rfl,rfl,rfl,rfl,rfl,H⟩
     ·refine CB O (nD ?_)
      refine Et 3 11 ?_ ?_
      ·refine mY ?_
       refine BD 11 O (BL H O (XG _) (MO O) fun W1 H=>ak ?_)
       refine BD 16 O (BL H O (XR _) (Oo O) fun W1 H=>dM ?_)
       rintro e W1 ⟨rfl,H'⟩
       refine⟨_,rfl,?_⟩
       have H:=H.CX 1 rfl H';clear H';simp only[Bv]at H
       refine jU ?_
       exact⟨rfl,rfl,rfl,rfl,rfl,rfl,rfl,rfl,rfl,H⟩
      ·refine CB O (BL H O (XG _) (MO O) fun W1 H=>ak ?_)
       refine Et 3 16 ?_ ?_
       ·refine mY ?_
        refine BD 16 O (BL H O (XR _) (Oo O) fun W1 H=>dM ?_)
        rintro e W1 ⟨rfl,H'⟩
        refine⟨_,rfl,?_⟩
        have H:=H.CX 1 rfl H';clear H';simp only[Bv]at H
        refine jU ?_
        exact⟨rfl,rfl,rfl,rfl,rfl,rfl,rfl,rfl,rfl,H⟩
       ·refine CB O (BL H O (XR _) (Oo O) fun W1 H=>lY ?_)
        refine BG H 2 O O O J7 (dM ?_)
        rintro e W1 ⟨rfl,H'⟩
        refine⟨_,rfl,?_⟩
        have H:=H.CX 1 rfl H';clear H';simp only[Bv]at H
        refine jU ?_
        exact⟨rfl,rfl,rfl,rfl,rfl,rfl,rfl,rfl,rfl,H⟩
   clear H
   rintro f W ⟨f0,f1,f2,f9,f10,f11,f48,f49,f50,H⟩
   obtain⟨f,rfl⟩:=asx f0 f1 f2 f9 f10 f11 f48 f49 f50
   clear f0 f1 f2 f9 f10 f11 f48 f49 f50
   refine AX (kK ?_)
   refine Gl (fun f W=>f 0=ptr pT∧f 1= .int .i64 b∧f 2= .slice (some ⟨q,o,none⟩) 1 lc∧f 48= .slice (some ⟨q,o,none⟩) 1 lc∧f 49= .int .i64 1∧f 50= .int .i64 0∧Heap w I [grp (Dy g d1),blk pT [ptr g.p,.int .i64 n,.slice (some ⟨p,0,none⟩) n c] 306,hrow p (hs.set b h) rs] W) ?_ ?_
   ·refine G5 mixed ?_;replace H:=H.drew
    refine bg ?_
    refine CZ 2 O O O (fun _ hS=>Cm O Rf) trivial (qB ?_)
    refine CZ 5 O O O (fun _ hS=>Cc (v:= .int _ _) O) trivial (CZ 6 O O O (fun _ hS=>Dq O O (wI Y)) trivial ?_)
    refine Et 3 7 ?_ ?_
    ·refine CB O (BG H 2 O O O WB (wE ?_))
     refine kQ ?_
     refine uF ?_
     clear H;refine axS fun _ H=>?_
     refine kJ ?_
     exact⟨rfl,rfl,rfl,rfl,rfl,rfl,H.drop⟩
    ·refine CB O (kQ ?_)
     refine BD 3 O (BG H 2 O O O WB (ak ?_))
     refine uF ?_
     clear H;refine axS fun _ H=>?_
     refine kJ ?_
     exact⟨rfl,rfl,rfl,rfl,rfl,rfl,H.drop⟩
   clear H
   rintro f W ⟨f0,f1,f2,f48,f49,f50,H⟩
   obtain⟨f,rfl⟩:=XC f0 f1 f2 f48 f49 f50
   clear f0 f1 f2 f48 f49 f50
   refine aS ?_
   exact⟨_,_,Y,rfl,1,Y,rfl,rfl,rfl,rfl,rfl,rfl,rfl,by rw[if_neg Y,if_neg Y];exact H⟩
  ·obtain rfl:i=1:=Y
   rw[if_neg Y,if_neg Y]at H
   refine aU ?_
   refine AX (A8 ?_)
   refine G5 mixed ?_;replace H:=H.drew
   refine aN ?_
   refine EC 2 O O O (fun _ hS=>Cm O aiM) trivial (EC 4 O O O (fun _ hS=>Cc (v:= .pointer _) O) trivial (EC 5 O O O (fun _ hS=>DT O) trivial (EC 6 O O O (fun _ hS=>Cm O air) trivial (EC 8 O O O (fun _ hS=>Cc (v:= .int _ _) O) trivial (EC 10 O O O (fun _ hS=>Cc (v:= .slice _ _ _) O) trivial (EC 11 O O O (fun _ hS=>Gw O underlying128) trivial ?_))))))
   refine Et 3 7 ?_ ?_
   ·refine CB O (BG H 1 O O O J7 (wE ?_))
    refine AV (JY H 1 (vs:=[.int .i64 n]) O O O O Ic He) (sU ?_)
    refine BL H O (XG _) (MO O) fun W1 H=>vY ?_
    rintro e W1 ⟨rfl,H'⟩
    refine⟨_,rfl,?_⟩
    have H:=H.CX 0 rfl H';clear H';simp only[Bv]at H
    refine oH ?_
    exact⟨d1,d2,h1,h2,rfl,H⟩
   ·refine CB O (AV (JY H 1 (vs:=[.int .i64 n]) O O O O Ic He) (ak ?_))
    refine Et 3 9 ?_ ?_
    ·refine CB O (BG H 1 O O O J7 (sU ?_))
     refine BL H O (XG _) (MO O) fun W1 H=>vY ?_
     rintro e W1 ⟨rfl,H'⟩
     refine⟨_,rfl,?_⟩
     have H:=H.CX 0 rfl H';clear H';simp only[Bv]at H
     refine oH ?_
     exact⟨d1,d2,h1,h2,rfl,H⟩
    ·refine CB O (BL H O (XG _) (MO O) fun W1 H=>lY ?_)
     refine BG H 1 O O O J7 (vY ?_)
     rintro e W1 ⟨rfl,H'⟩
     refine⟨_,rfl,?_⟩
     have H:=H.CX 0 rfl H';clear H';simp only[Bv]at H
     refine oH ?_
     exact⟨d1,d2,h1,h2,rfl,H⟩
end
end
end
section
section
open Go.RowKit
def Yr(hs:List Ob.H3):Prop:=∀h∈hs,h=(0,0,0)∨∃k:Int,0≤k∧k<32∧h=(1,k,0)
theorem Yr.set{hs:List Ob.H3}(h:Yr hs)(b:Nat){k:Int}(hk:0≤k∧k<32):Yr (hs.set b (1,k,0)):=fun x hx=>by
 rcases DY hx with h1|rfl
 ·exact h x h1
 ·exact .inr ⟨k,hk.1,hk.2,rfl⟩
theorem Yr.kind{hs:List Ob.H3}(h:Yr hs){i:Nat}{x:Ob.H3}(hx:hs[i]? =some x):x.1=0∨x.1=1:=by
 rcases h x (BP hx)with rfl|⟨k,_,_,rfl⟩
 ·exact .inl rfl
 ·exact .inr rfl
theorem aog(A:Option Addr)(n c:Nat)(hs:List Ob.H3)(w:World)(hS:KG w [] A hs)(hB:Yr hs)(hl:hs.length=n)(hn:1≤n∧n≤1000):
 Calls prog 178 [.slice A n c].toArray w fun e w'=>e= .returned (.tuple #[.int .i64 0,.bool true])∧Only [] w w':=by
 have H:=Heap.nil w
 refine BO 36 func178 O (AP (oG ?_))
 refine vT ?_
 refine EO (fun z f W=>∃(i:Nat),1≤i∧i≤n∧z=n-i∧f 0= .slice A n c∧f 4= .int .i64 i∧Heap w [] [] W) (n-1) ⟨1,Y,Y,rfl,rfl,rfl,H⟩ ?_
 clear H
 rintro z f W ⟨i,hi1,hi,rfl,f0,f4,H⟩
 by_cases hin:i<n
 ·obtain⟨h,hh⟩:∃h,hs[i]? =some h:=⟨_,Ba Y⟩
  have hk:=hB.kind hh
  obtain⟨q,o,rfl,_,hrd⟩:=hS Y
  have c0:=hrd i h hh 0 _ rfl
  obtain⟨f,rfl⟩:=LZ f0 f4
  clear f0 f4
  refine ji ?_
  refine fC ?_
  refine AP (iy ?_)
  refine AO (E8 (AP (iq ?_)))
  refine dX ?_
  refine AO (DC O (Bj (CS (nY ?_))))
  exact⟨_,_,Y,rfl,i+1,Y,Y,rfl,rfl,rfl,H⟩
 ·obtain rfl:i=n:=Y
  obtain⟨f,rfl⟩:=LZ f0 f4
  clear f0 f4
  refine ji ?_
  refine og ?_
  refine AP (vG ?_)
  exact⟨rfl,H.only⟩
def mnC(pT pX n:Nat):List Value:=[ptr pT,ptr pX,.int .i64 n]
def ZM(g:Geo)(n pM pT p:Nat)(hs:List Ob.H3)(rs:List Value)(c pX bS bE:Nat)(S E:IL):List FU:=
 [blk pM (mnC pT pX n) 265,blk pT (tbC g n p c) 306,hrow p hs rs,grp (RI pX bS bE S E n)]
theorem aq6(g:Geo)(d:Nv.D)(n:Nat)(hs:List Ob.H3)(w:World)(hE:Dj (Dy g d) w)(hw:Ob.Qv d.cache)(hk:aer d.cache hs)(hB:Yr hs)(hl:hs.length=n)(hn:1≤n∧n≤1000):
 Calls prog 116 [ptr g.p,.agg [.int .i64 n].toArray].toArray w fun e w'=>∃pM pT p c rs pX bS bE S E,e= .returned (.tuple #[ptr pM,.int .i64 0])∧n≤c∧Rn.Ok S E n (QY hs n)∧Heap w [] (ZM g n pM pT p hs rs c pX bS bE S E) w':=by
 have H:=Heap.nil w
 have hDv:=fun{W:World} (hO:Only [] w W)=>((Heap.start hE).same hO).ents
 refine BO 44 func116 O (AP (D9 H O O fun p3 _ H=>Fb O (sZ ?_)))
 refine uG ?_
 refine s_call O (asB g d n hs _ (hDv H.only) hw hk hl hn) (avI O) ?_
 rintro e W1 ⟨pT,p,c,rs,rfl,hnc,H'⟩
 refine⟨_,rfl,?_⟩
 have H:=H.more (A:=[grp _]) (Io H');clear H';simp only[Bv]at H
 refine fJ ?_
 refine AO (gI ?_)
 refine A8 (AP (Bg O (s_call O (aqg (H.Bl 0 O) hl hn) (aqh O) ?_)))
 rintro e W1 ⟨A',c',rfl,hSa,H'⟩
 refine⟨_,rfl,?_⟩
 have H:=H.same H';clear H'
 refine BL H O (aog _ _ _ hs _ hSa hB hl hn) (avG O) fun W1 H=>aF ?_
 refine AO (AP (BX O (eU ?_)))
 refine A8 ?_
 refine Gl (fun f W=>∃pX bS bE S E,f 3=ptr p3∧f 6=ptr pT∧f 7= .int .i64 0∧f 10=ptr pX∧Rn.Ok S E n (QY hs n)∧Heap w [] [grp (RI pX bS bE S E n),grp (tbE g n pT p hs rs c),blk p3 [.int .i64 n] 79] W) ?_ ?_
 ·refine G5 mixed ?_;replace H:=H.drew
  refine CZ 0 O O O (fun _ hS=>Cm O QU) trivial (CZ 2 O O O (fun _ hS=>Cc (v:= .pointer _) O) trivial ?_)
  refine Et 1 3 ?_ ?_
  ·refine CB O (BG H 1 O O O FM (lY ?_))
   refine s_call O (agf (H.Bl 0 O) hl hn) (apo O) ?_
   rintro e W1 ⟨A1,c1,l,rfl,hsp,H'⟩
   refine⟨_,rfl,?_⟩
   have H:=H.more H';clear H';simp only[Bv]at H
   refine jd ?_
   refine s_call O (amG n _ _ hs l _ (H.acg 0 O) hsp Y) (apr O) ?_
   rintro e W1 ⟨pX,bS,bE,S,E,rfl,hO,H'⟩
   refine⟨_,rfl,?_⟩
   have H:=H.drop.more (A:=[grp _]) (Io H');clear H';simp only[Bv]at H
   refine ak ?_
   refine iG ?_
   refine CU (Dp ?_)
   exact⟨pX,bS,bE,S,E,rfl,rfl,rfl,rfl,hO,H⟩
  ·refine CB O (s_call O (agf (H.Bl 0 O) hl hn) (apo O) ?_)
   rintro e W1 ⟨A1,c1,l,rfl,hsp,H'⟩
   refine⟨_,rfl,?_⟩
   have H:=H.more H';clear H';simp only[Bv]at H
   refine ak ?_
   refine BD 1 O (BG H 2 O O O FM (jd ?_))
   refine s_call O (amG n _ _ hs l _ (H.acg 0 O) hsp Y) (apr O) ?_
   rintro e W1 ⟨pX,bS,bE,S,E,rfl,hO,H'⟩
   refine⟨_,rfl,?_⟩
   have H:=H.drop.more (A:=[grp _]) (Io H');clear H';simp only[Bv]at H
   refine ak ?_
   refine iG ?_
   refine CU (Dp ?_)
   exact⟨pX,bS,bE,S,E,rfl,rfl,rfl,rfl,hO,H⟩
 clear H
 rintro f W ⟨pX,bS,bE,S,E,f3,f6,f7,f10,hO,H⟩
 obtain⟨f,rfl⟩:=Jj f3 f6 f7 f10
 clear f3 f6 f7 f10
 refine AX (gI ?_)
 refine AP (Bg O (Bg O (Dw H 2 O O O Ic He (AV (FI (afW _ _ _) O) (D9 H O O fun p43 _ H=>qZ ?_)))))
 have H1:Heap w [] [_,_,_] _:=Heap.BQ H [2,0,1] rfl rfl
 replace H1:=Heap.acn H1
 exact⟨_,pT,p,c,rs,pX,bS,bE,S,E,rfl,hnc,hO,H1.order [2,0,1,3] rfl rfl⟩
section
variable{g:Geo}{n pM pT p c pX bS bE:Nat}{hs:List Ob.H3}{rs:List Value}{S E:IL}{w:World}
theorem aq8(hE:Dj (ZM g n pM pT p hs rs c pX bS bE S E) w):
 Calls prog 182 [ptr pM].toArray w fun e w'=>e= .returned (.agg [.int .i64 n].toArray)∧Only [] w w':=by
 have HR:=Heap.start hE
 have H:=Heap.nil w
 refine BO 7 func182 O (AP (Ei H O afn fun p2 _ H=>uj ?_))
 refine BI O ao2 (AV (JY (HR.same H.only) 0 (vs:=[.int .i64 n]) O O O O Ic He) (En H 0 O O O O O O O He ?_))
 clear H;refine axS fun _ H=>?_
 refine AO (BM (abJ O (JB H 0 O O O Ic He) ?_))
 exact⟨rfl,H.only⟩
end
end
end
section
section
open Go.RowKit
theorem anU{hs:List Ob.H3}{b:Nat}{k:Int}(n:Nat)(hb:b<hs.length)(x:Int):QY (hs.set b (1,k,0)) n x↔QY hs n x∧¬((b:Int)≤x∧x<b+1):=by
 unfold QY
 constructor
 ·rintro⟨h1,h2,h,h3,h4⟩
  by_cases e:x.toNat=b
  ·rw[e,Gf hb]at h3
   injection h3 with h3
   subst h3
   cases h4
  ·rw[Ez (fun h=>e h.symm)]at h3
   exact⟨⟨h1,h2,h,h3,h4⟩,Y⟩
 ·rintro⟨⟨h1,h2,h,h3,h4⟩,h5⟩
  exact⟨h1,h2,h,by rw[Ez Y];exact h3,h4⟩
theorem anA{p bS bE:Nat}{S E:IL}{lim:Int}{fb:Int→Prop}{w:World}(hE:Dj (RI p bS bE S E lim) w)(hO:Rn.Ok S E lim fb)(hl:lim≤10000):
 Calls prog 261 [Y8 p,.int .i64 1].toArray w fun e w'=>∃(s q:Int) (S' E':IL),e= .returned (.tuple #[.int .i64 s,.int .i64 q])∧
  (q=4∧(∀b,¬fb b)∧S'=S∧E'=E∨q=0∧1≤s∧s+1≤lim∧fb s∧Rn.Ok S' E' lim (fun b=>fb b∧¬(s≤b∧b<s+1)))∧Heap w (ids (RI p bS bE S E lim)) (RI p bS bE S' E' lim) w':=by
 refine(aq7 hE hO hl 1 Y).mono ?_
 rintro e w' (⟨h1,rfl,h2⟩|⟨s,S',E',h1,h2,h3,h4,rfl,H⟩)
 ·refine⟨0,4,S,E,rfl,.inl ⟨rfl,fun b hb=>?_,rfl,rfl⟩,(Heap.start hE).same h2⟩
  obtain⟨s,k,h3,h4⟩:=(hO.cov b).1 hb
  have h5:=h1 s k h3
  have h6:=hO.bd s k h3
  omega
 ·exact⟨s,0,S',E',rfl,.inr ⟨rfl,h1,h2,h3 s (Px _) Y,h4⟩,H⟩
theorem Heap.Uf{w0 W:World}{F:List Nat}{A L:List FU}{R:Option Addr}{n c:Nat}{hs:List Ob.H3}{T:TypeId}(H:Heap w0 F (A++Ec 3 (.slice R n c) n ((hfl hs).map (Value.int .i64)) T::L) W):KG W (ids A) R hs:=fun h0=>by
 have hj:(A++Ec 3 (.slice R n c) n ((hfl hs).map (Value.int .i64)) T::L)[A.length]? =some (Ec 3 (.slice R n c) n ((hfl hs).map (Value.int .i64)) T):=by rw[Em (BF _),Hw];rfl
 obtain⟨b,o,e,_,hr⟩:=H.acL A.length hj h0
 refine⟨b,o,e,fun hm=>?_,hr⟩
 have hnd:=H.nd
 rw[EX]at hnd
 refine(C9.1 hnd).2.2 b hm b ?_ O
 rw[Ep]
 refine CO _ ?_
 show b∈(Value.slice R n c).ownBlock.toList
 rw[e];simp[Value.ownBlock]
section
variable{g:Geo}{d:Nv.D}{m n pM pT p c pX bS bE:Nat}{hs:List Ob.H3}{rs:List Value}{S E:IL}{w:World}
theorem aoh(hE:Dj (grp (Dy g d)::ZM g n pM pT p hs rs c pX bS bE S E) w)(hD:Dv d m)(hg:Q5 g m)(hm:m≤100000)(hnm:256+n≤8*m)(hl:hs.length=n)(hn:n≤1000)(hO:Rn.Ok S E n (QY hs n))(k:Int)(hk:0≤k∧k<32):
 Calls prog 218 [ptr pM,.int .i64 k].toArray w fun e w'=>
  ((∀b,¬QY hs n b)∧e= .returned (.tuple #[.int .i64 0,.int .i64 4])∧Heap w (ids (grp (Dy g d)::ZM g n pM pT p hs rs c pX bS bE S E)) (grp (Dy g d)::ZM g n pM pT p hs rs c pX bS bE S E) w')∨
  ∃(b:Nat) (d1 d2:Nv.D) (S' E':IL),1≤b∧b<n∧QY hs n b∧ZB d d1 m (256+b) (Bh.enc 1 k 0 (256+(b:Int)))∧Per d1 d2 m (256+b) 1∧Rn.Ok S' E' n (QY (hs.set b (1,k,0)) n)∧e= .returned (.tuple #[.int .i64 b,.int .i64 0])∧
   Heap w (ids (grp (Dy g d)::ZM g n pM pT p hs rs c pX bS bE S E)) (grp (Dy g d2)::ZM g n pM pT p (hs.set b (1,k,0)) rs c pX bS bE S' E') w':=by
 have H:=Heap.start hE
 have hr:Bh.right 1 k 0=true:=Bh.EI _ _ _ (.inr (.inl ⟨rfl,hk.1,hk.2,rfl⟩))
 unfold ZM at H⊢
 generalize ids _=I at*
 refine BO 38 func218 O (AP (kG ?_))
 refine AP (AQ O (AV (FI (adh _ _) O) (Ei H O Jf fun p6 _ H=>tH ?_)))
 clear H;refine axS fun _ H=>?_
 refine AO (A8 (AP (Dw H 0 O O O Ir Eu (BL H O (ait _ _ _ _ hr) (apZ O) fun W1 H=>eU ?_))))
 refine dL ?_
 refine BI O aij (BG H 2 O O O apm (s_call O (anA (H.Bl 5 O) hO Y) (avr O) ?_))
 rintro e W1 ⟨s,q,S',E',rfl,hq,H'⟩
 refine⟨_,rfl,?_⟩
 have H9:=H.CX 5 rfl H';clear H H';have H:=H9;clear H9;simp only[Bv]at H
 refine jP ?_
 refine AO (A8 (A8 ?_))
 rcases hq with⟨rfl,hno,hSS,hEE⟩|⟨rfl,hs1,hs2,hfr,hO2⟩
 ·refine DF (AQ O (AV (Jr O O Y) (oV ?_)))
  refine AQ O (nC ?_)
  have H1:=H.drop
  rw[hSS,hEE]at H1
  exact .inl ⟨hno,rfl,H1⟩
 ·obtain⟨b,rfl⟩:=BR (show 0≤s by omega)
  have hbn:b<n:=Y
  have hO3:Rn.Ok S' E' n (QY (hs.set b (1,k,0)) n):=hO2.congr fun x=>(anU n Y x).symm
  refine DF (AQ O (AV (Dc O O Y) (dK ?_)))
  refine A8 (A8 ?_)
  refine Gl (fun f W=>∃d1 d2,ZB d d1 m (256+b) (Bh.enc 1 k 0 (256+(b:Int)))∧Per d1 d2 m (256+b) 1∧f 7= .int .i64 b∧f 9= .int .i64 0∧Heap w I [grp (Dy g d2),blk pM (mnC pT pX n) 265,blk pT (tbC g n p c) 306,hrow p (hs.set b (1,k,0)) rs,grp (RI pX bS bE S' E' n)] W) ?_ ?_
  ·refine G5 mixed ?_;replace H:=H.drew
   refine bg ?_
   refine CZ 2 O O O (fun _ hS=>Cm O La) trivial (qB ?_)
   refine Et 3 5 ?_ ?_
   ·refine CB O (BG H 2 O O O PO (oW ?_))
    refine kQ ?_
    refine BD 6 O (nO ?_)
    intro q6 _ H';clear H;have H:=H';clear H'
    refine wE ?_
    refine s_call O ((by have H2:Heap w I ([_,_,_]++ [_,_,_,_]) _:=H.order [2,4,5,0,1,3,6] O O;exact aed (hs:=hs) (n:=n) H2.part hD hg hm hnm hl hn b ⟨Y,hbn⟩ (1,k,0) hr _ _ (Heap.Uf (A:=[_,_,_]) (hs:=[(1,k,0)]) H2))) (ah7 O) ?_
    rintro e W1 ⟨d1,d2,h1,h2,rfl,H'⟩
    refine⟨_,rfl,?_⟩
    have H2:Heap w I ([_,_,_]++ [_,_,_,_]) _:=H.order [2,4,5,0,1,3,6] rfl rfl;have H3:=H2.step H' (fun i hi=>hi);clear H H' H2;simp only[tbE,EL,Ey]at H3;have H:Heap w I [_,_,_,_,_] _:=Heap.BQ H3 [0,5,1,2,6] rfl rfl;clear H3
    refine qN ?_
    exact⟨d1,d2,h1,h2,rfl,rfl,H⟩
   ·refine CB O (kQ ?_)
    refine Et 3 6 ?_ ?_
    ·refine CB O (BG H 2 O O O PO (ak ?_))
     refine BD 6 O (nO ?_)
     intro q6 _ H';clear H;have H:=H';clear H'
     refine wE ?_
     refine s_call O ((by have H2:Heap w I ([_,_,_]++ [_,_,_,_]) _:=H.order [2,4,5,0,1,3,6] O O;exact aed (hs:=hs) (n:=n) H2.part hD hg hm hnm hl hn b ⟨Y,hbn⟩ (1,k,0) hr _ _ (Heap.Uf (A:=[_,_,_]) (hs:=[(1,k,0)]) H2))) (ah7 O) ?_
     rintro e W1 ⟨d1,d2,h1,h2,rfl,H'⟩
     refine⟨_,rfl,?_⟩
     have H2:Heap w I ([_,_,_]++ [_,_,_,_]) _:=H.order [2,4,5,0,1,3,6] rfl rfl;have H3:=H2.step H' (fun i hi=>hi);clear H H' H2;simp only[tbE,EL,Ey]at H3;have H:Heap w I [_,_,_,_,_] _:=Heap.BQ H3 [0,5,1,2,6] rfl rfl;clear H3
     refine qN ?_
     exact⟨d1,d2,h1,h2,rfl,rfl,H⟩
    ·refine CB O (nO ?_)
     intro q6 _ H';clear H;have H:=H';clear H'
     refine lY ?_
     refine BG H 3 O O O PO (wE ?_)
     refine s_call O ((by have H2:Heap w I ([_,_,_]++ [_,_,_,_]) _:=H.order [2,4,5,0,1,3,6] O O;exact aed (hs:=hs) (n:=n) H2.part hD hg hm hnm hl hn b ⟨Y,hbn⟩ (1,k,0) hr _ _ (Heap.Uf (A:=[_,_,_]) (hs:=[(1,k,0)]) H2))) (ah7 O) ?_
     rintro e W1 ⟨d1,d2,h1,h2,rfl,H'⟩
     refine⟨_,rfl,?_⟩
     have H2:Heap w I ([_,_,_]++ [_,_,_,_]) _:=H.order [2,4,5,0,1,3,6] rfl rfl;have H3:=H2.step H' (fun i hi=>hi);clear H H' H2;simp only[tbE,EL,Ey]at H3;have H:Heap w I [_,_,_,_,_] _:=Heap.BQ H3 [0,5,1,2,6] rfl rfl;clear H3
     refine qN ?_
     exact⟨d1,d2,h1,h2,rfl,rfl,H⟩
  clear H
  rintro f W ⟨d1,d2,h1,h2,f7,f9,H⟩
  obtain⟨f,rfl⟩:=LZ f7 f9
  clear f7 f9
  refine AX (kK ?_)
  refine AP (AQ O (nS ?_))
  exact .inr ⟨b,d1,d2,S',E',Y,hbn,hfr,h1,h2,hO3,rfl,H⟩
end
end
end
section
section
open Go.RowKit
structure IX where
 pA:Nat
 pM:Nat
 pT:Nat
 ph:Nat
 hc:Nat
 pX:Nat
 bS:Nat
 bE:Nat
 pU:Nat
 bU:Nat
 cU:Nat
 pF:Nat
 bF:Nat
 rs:List Value
 S:IL
 E:IL
 hs:List Ob.H3
 AU:Option Addr
 U:List Bool
 F:Nat→EP
 FL:Vf
 n:Nat
 M:Nat→Nat
def IX.C(g:Geo)(s:IX):List Value:=[ptr s.pM,ptr g.p,.int .i64 s.n,pt s.pU,Q7 s.pF]
def IX.L(g:Geo)(s:IX):List FU:=
 [blk s.pA (s.C g) 238,blk s.pM (mnC s.pT s.pX s.n) 265,blk s.pT (tbC g s.n s.ph s.hc) 306,hrow s.ph s.hs s.rs,grp (RI s.pX s.bS s.bE s.S s.E s.n),grp (II s.pU s.bU s.AU s.cU s.U),grp (ZK s.pF s.bF s.F s.F s.FL)]
def Ja(b k i:Int):Int:=b*512+i*Cl.words k
def Ee(U:List Bool)(a:Int):Bool:=decide (0≤a)&&Bm.at_ U a.toNat
theorem Tv{b k i j:Int}(hk:0≤k∧k<32)(h:i<j):Ja b k i<Ja b k j:=by
 have hw:=Cl.Gt k hk.1 hk.2
 have:=Int.mul_lt_mul_of_pos_right h (show 0<Cl.words k by omega)
 unfold Ja;omega
theorem amS(n k b i:Int)(w:World)(hn:0≤n∧n≤1000)(hk:0≤k∧k<32)(hb:1≤b∧b<n)(hi:0≤i∧i<Cl.cells k):
 Calls prog 244 [.agg [.int .i64 n].toArray,.int .i64 k,.agg [.int .i64 b,.int .i64 i].toArray].toArray w fun e w'=>e= .returned (.int .i64 (Ja b k i))∧Only [] w w':=by
 have e:=Ce.Uc n k b i hk.1 hk.2 hb.1 hb.2 hi.1 hi.2
 have hc:=Cl.Xx k
 have h:=Zd n k b i w Y Y Y Y Y Y Y Y
 rw[e]at h
 exact h.mono fun e w' h=>⟨h.1,Only.of_below h.2 _⟩
theorem aqB(k:Int)(w:World)(hk:0≤k∧k<32):Calls prog 131 [.int .i64 k].toArray w fun e w'=>e= .returned (.int .i64 (Cl.cells k))∧Only [] w w':=
 (YB k w Y Y).mono fun e w' h=>⟨h.1,Only.of_below h.2 _⟩
theorem aiQ(g:Geo)(s:IX)(w:World)(hE:Dj (s.L g) w)(hU:Gn s.bU s.AU s.cU s.U)(hn:s.n≤256)(N:Nat)(hN:N≤90000)(hF:PK s.M (xsOf s.F))(hFr:ML s.F s.FL N)(b k:Nat)(hb:1≤b∧b<s.n)(hk:k<32)(hnew:∀i:Int,0≤i→i<Cl.cells k→Ja b k i∉cls (xsOf s.F) k):
 Calls prog 187 [ptr s.pA,.int .i64 b,.int .i64 k].toArray w fun e w'=>∃F' KP,e= .returned (.tuple #[])∧PK s.M (xsOf F')∧ML F' KP (N+256)∧
  (∀a,a∈cls (xsOf F') k↔a∈cls (xsOf s.F) k∨∃i:Int,0≤i∧i<Cl.cells k∧a=Ja b k i∧Ee s.U a=false)∧(∀j,j≠k→cls (xsOf F') j=cls (xsOf s.F) j)∧Heap w (ids (s.L g)) (IX.L g {s with F:=F',FL:=KP}) w':=by
 have H:=Heap.start hE
 have hcb:=Cl.Xx k
 obtain⟨m,hm⟩:∃m:Nat,Cl.cells k=(m:Int):=⟨(Cl.cells k).toNat,Y⟩
 generalize ids (s.L g)=I at*
 unfold IX.L IX.C at H
 refine BO 38 func187 O (AP (AQ O (BL H O (aqB k _ Y) (atU O) fun W1 H=>mD ?_)))
 refine AY O (AO (E8 ?_))
 refine EO (fun z f W=>∃(q:Nat) (F:Nat→EP) (FL:Vf),q≤m∧z=q∧PK s.M (xsOf F)∧ML F FL (N+(m-q))∧(∀a,a∈cls (xsOf F) k↔a∈cls (xsOf s.F) k∨∃i:Int,q≤i∧i<Cl.cells k∧a=Ja b k i∧Ee s.U a=false)∧(∀j,j≠k→cls (xsOf F) j=cls (xsOf s.F) j)∧f 0=ptr s.pA∧f 1= .int .i64 b∧f 2= .int .i64 k∧f 6= .int .i64 ((q:Int)-1)∧Heap w I [blk s.pA [ptr s.pM,ptr g.p,.int .i64 s.n,pt s.pU,Q7 s.pF] 238,blk s.pM (mnC s.pT s.pX s.n) 265,blk s.pT (tbC g s.n s.ph s.hc) 306,hrow s.ph s.hs s.rs,grp (RI s.pX s.bS s.bE s.S s.E s.n),grp (II s.pU s.bU s.AU s.cU s.U),grp (ZK s.pF s.bF F F FL)] W) m ⟨m,s.F,s.FL,Y,rfl,hF,by rw[Hw];exact hFr,fun a=>⟨.inl,fun h=>h.elim id fun⟨i,h1,h2,_⟩=>Y⟩,fun _ _=>rfl,rfl,rfl,rfl,by rw[←hm];rfl,H⟩ ?_
 clear H
 rintro z f W ⟨q,F,FL,hq,hz,hF1,ahv,hmem,hoff,f0,f1,f2,f6,H⟩
 replace hz:=hz.symm
 subst hz
 obtain⟨f,rfl⟩:=Jj f0 f1 f2 f6
 clear f0 f1 f2 f6
 cases q with
 |zero=>
  refine iQ ?_
  refine AV (Fz O O Y) (AO (DC O (Eo (CY (CY (Fv (fin0 O ?_)))))))
  exact⟨F,FL,rfl,hF1,⟨ahv.keys,ahv.got,fun i hi=>FC (ahv.len i hi) Y⟩,hmem,hoff,H⟩
 |succ q=>
  have hqm:(q:Int)<Cl.cells k:=Y
  have e6:((q+1:Nat):Int)-1=(q:Int):=Y
  rw[e6]
  have hA:=fun(W:World)=>amS s.n k b q W Y Y Y ⟨Y,hqm⟩
  have hw2:=Cl.U8 k
  have hmb:=Ce.ahc k q Y Y Y hqm
  have hca:Ja b k q=b*512+q*Cl.words k:=rfl
  have hH:=fun{W:World} hE=>aeu (p:=s.pU) hU W hE (Ja b k q)
  have hnot:Ja b k q∉cls (xsOf F) k:=fun hx=>by
   rcases(hmem _).1 hx with h1|⟨i,h1,h2,h3,_⟩
   ·exact hnew q Y hqm h1
   ·have:=Tv (b:=(b:Int)) (k:=(k:Int)) Y (show(q:Int)<i by omega);omega
  cases hu:Ee s.U (Ja b k q)with
  |true=>
   unfold Ee at hu
   rw[hu]at hH
   refine iQ ?_
   refine AV (GI O O Y) (AO (rD ?_))
   refine BL H O (hA _) (apt O) fun W1 H=>AY O (uj ?_)
   refine BI O Pm (BG H 0 O O O Ig (AQ O (BL H O (hH (H.Bl 5 O)) (Qb O) fun W1 H=>AV (Ea O) (AO (jY ?_)))))
   refine DF (AQ O (mD ?_))
   refine AY O (AZ (Dk ?_))
   refine⟨_,_,?_,rfl,q,F,FL,Y,rfl,hF1,⟨ahv.keys,ahv.got,fun i hi=>FC (ahv.len i hi) Y⟩,fun a=>?_,hoff,rfl,rfl,rfl,rfl,H⟩
   ·omega
   ·rw[hmem]
    constructor
    ·rintro(h1|⟨i,h1,h2⟩)
     ·exact .inl h1
     ·exact .inr ⟨i,Y,h2⟩
    ·rintro(h1|⟨i,h1,h2,h3,h4⟩)
     ·exact .inl h1
     ·by_cases e:i=q
      ·subst e
       rw[h3]at h4
       unfold Ee at h4
       rw[hu]at h4;cases h4
      ·exact .inr ⟨i,Y,h2,h3,h4⟩
  |false=>
   have hu2:=hu
   unfold Ee at hu2
   rw[hu2]at hH
   obtain⟨S',hp1,hp2,hp3,hp4⟩:=ahM hF1 hk hnot
   have hP:=fun{W:World} hE=>apz (p:=s.pF) (b:=s.bF) (w:=W) hE ahv Y k (Ja b k q)
   rw[hp1]at hP
   refine iQ ?_
   refine AV (GI O O Y) (AO (rD ?_))
   refine BL H O (hA _) (apt O) fun W1 H=>AY O (uj ?_)
   refine BI O Pm (BG H 0 O O O Ig (AQ O (BL H O (hH (H.Bl 5 O)) (Qb O) fun W1 H=>AV (Ib O) (AO (EF O (jw ?_))))))
   refine BI O VQ (BG H 0 O O O abo (AQ O (AQ O (s_call O (hP (H.Bl 6 O)) (aqi O) ?_))))
   rintro e W1 ⟨rfl,F2,FL2,H',hF2,hx2⟩
   refine⟨_,rfl,?_⟩
   have H:=H.CX 6 rfl H';clear H';simp only[Bv]at H
   refine AZ (CS (AX (DF (AQ O (mD ?_)))))
   refine AY O (AZ (Dk ?_))
   refine⟨_,_,?_,rfl,q,F2,FL2,Y,rfl,by rw[hx2];exact hp2,by rw[show N+(m-q)=N+(m-(q+1))+1 by omega];exact hF2,fun a=>?_,fun j hj=>by rw[hx2,hp4 j hj];exact hoff j hj,rfl,rfl,rfl,rfl,H⟩
   ·omega
   ·rw[hx2,hp3.mem_iff,Ci,hmem]
    constructor
    ·rintro((h1|⟨i,h1,h2⟩)|h1)
     ·exact .inl h1
     ·exact .inr ⟨i,Y,h2⟩
     ·rw[Bz.1 h1]
      exact .inr ⟨q,Y,hqm,rfl,hu⟩
    ·rintro(h1|⟨i,h1,h2,h3,h4⟩)
     ·exact .inl (.inl h1)
     ·by_cases e:i=q
      ·subst e
       exact .inr (by rw[h3];simp)
      ·exact .inl (.inr ⟨i,Y,h2,h3,h4⟩)
end
end
section
section
open Go.RowKit
structure Wri (d d':Nv.D) (m a n:Nat) (f:Nat→Int):Prop where
 D:Dv d' m
 i:∀x:Nat,x<n→Nv.get d'.cache ((a+x:Nat):Int)=f x
 o:∀x:Int,¬((a:Int)≤x∧x<a+n)→Nv.get d'.cache x=Nv.get d.cache x
 k:∀j,(∀x,a≤x→x<a+n→x/8≠j)→UU d' j=UU d j
theorem ZB.get{d d':Nv.D}{m a:Nat}{v:Int}(h:ZB d d' m a v)(ha:a<8*m)(hl:d.cache.length=8*m)(x:Int):Nv.get d'.cache x=if x=a then v else Nv.get d.cache x:=by
 rw[h.c];exact an5 Y v x
theorem avs(p q a:Int)(w:World)(hp:0≤p∧p≤63)(hq:0≤q∧q≤16384)(ha:0≤a∧a≤1000000000):
 Calls prog 220 [.agg [.int .i64 p,.int .i64 q].toArray,.int .i64 a].toArray w fun e w'=>e= .returned (.int .u64 (Oh.enc p q a))∧Only [] w w':=
 (abH p q a w Y Y Y Y Y Y).mono fun e w' h=>⟨h.1,Only.of_below h.2 _⟩
theorem ard(g:Geo)(d:Nv.D)(m a:Nat)(p q:Int)(n:Nat)(w:World)(hE:Dj (Dy g d) w)(hD:Dv d m)(hm:m≤100000)(hp:0≤p∧p≤63)(hq:0≤q∧q≤16384)(hn:(n:Int)=1+p+q)(ha:a+n≤8*m):
 Calls prog 158 [ptr g.p,.int .i64 a,.agg [.int .i64 p,.int .i64 q].toArray].toArray w fun e w'=>∃d',Wri d d' m a n (fun x=>if x=0 then Oh.enc p q a else 0)∧e= .returned (.int .i64 0)∧Heap w (ids (Dy g d)) (Dy g d') w':=by
 have H:=IJ hE
 have hsz:Cl.size p q=n:=by rw[(Cl.Ns p q hp.1 hp.2 hq.1 hq.2).1];omega
 have hcl:=hD.len
 have hS:=fun(W:World)=>aej p q W Y Y
 rw[hsz]at hS
 have XR:=fun(W:World)=>avs p q a W hp hq Y
 generalize hI:ids (Dy g d)=I at*
 refine BO 51 func158 O (AP (D9 H O O fun p5 _ H=>AY O (AO (AP (tJ ?_)))))
 refine BL H O (hS _) (Zc O) fun W1 H=>iZ ?_
 refine iq ?_
 refine AQ O (AV (Di O O Y) (BX O (Bo 18 O (Gm O) (Bo 18 O (Ls O) (s_call (ET 18 Aw O) (Zw g d _ (H.Bl 1 O)) (Qq O) ?_)))))
 rintro e W1 ⟨rfl,H'⟩
 refine⟨_,rfl,?_⟩
 have H:=H.same H';clear H'
 refine Bo 18 O (Fz O O Y) (DW O O (BX O (Bo 24 O (Gm O) (Bo 24 O (Ls O) (s_call (ET 24 Aw O) (Zw g d _ (H.Bl 1 O)) (Qq O) ?_)))))
 rintro e W1 ⟨rfl,H'⟩
 refine⟨_,rfl,?_⟩
 have H:=H.same H';clear H'
 refine Bo 24 O (Gm O) (Bo 24 O (Gu O O (wI Y)) (Bo 24 O (Jy O O Y) (DW O O (uO ?_))))
 refine vT ?_
 refine EO (fun z f W=>∃(i:Nat) (d1:Nv.D),1≤i∧i≤n∧z=n-i∧Dv d1 m∧(∀x:Nat,1≤x→x<i→Nv.get d1.cache ((a+x:Nat):Int)=0)∧(∀x:Int,¬((a:Int)+1≤x∧x<a+i)→Nv.get d1.cache x=Nv.get d.cache x)∧(∀j,(∀x,a≤x→x<a+n→x/8≠j)→UU d1 j=UU d j)∧f 0=ptr g.p∧f 1= .int .i64 a∧f 5=ptr p5∧f 7= .int .i64 n∧f 8= .int .i64 i∧Heap w I [blk p5 [.int .i64 p,.int .i64 q] 205,grp (Dy g d1)] W) (n-1) ⟨1,d,Y,Y,rfl,hD,fun x h1 h2=>Y,fun x h=>rfl,fun j h=>rfl,rfl,rfl,rfl,rfl,rfl,H⟩ ?_
 clear H
 rintro z f W ⟨i,d1,hi1,hi,rfl,hD1,hz,ho,hk,f0,f1,f5,f7,f8,H⟩
 obtain⟨f,rfl⟩:=OJ f0 f1 f5 f7 f8
 clear f0 f1 f5 f7 f8
 have hl1:=hD1.len
 by_cases hin:i<n
 ·obtain⟨d2,e2,h2⟩:=hD1.stored (a:=a+i) (v:=0) Y Y
  have hg2:=h2.get Y hl1
  have eai:((a+i:Nat):Int)=(a:Int)+i:=Y
  have hSt:=fun{W:World} hE=>Ua (g:=g) (w:=W) hE hD1 hm e2
  rw[eai]at hSt
  refine iQ ?_
  refine AQ O (fC ?_)
  refine eH ?_
  refine mZ ?_
  refine s_call O (hSt (H.Bl 1 O)) (JI O) ?_
  rintro e W1 ⟨rfl,H'⟩
  refine⟨_,rfl,?_⟩
  have H:=H.CX 1 rfl H';clear H';simp only[Bv]at H
  refine uZ ?_
  refine⟨_,_,?_,rfl,i+1,d2,Y,Y,rfl,h2.D,fun x h3 h4=>?_,fun x h3=>?_,fun j h3=>?_,rfl,rfl,rfl,rfl,rfl,H⟩
  ·omega
  ·rw[hg2]
   by_cases e:x=i
   ·subst e;rw[if_pos rfl]
   ·rw[if_neg Y];exact hz x h3 Y
  ·rw[hg2,if_neg Y];exact ho x Y
  ·rw[h2.k j (fun e=>h3 (a+i) Y Y e.symm)];exact hk j h3
 ·obtain rfl:i=n:=Y
  obtain⟨d2,e2,h2⟩:=hD1.stored (a:=a) (v:=Oh.enc p q a) Y (Oh.abr p q a)
  have hg2:=h2.get Y hl1
  have hSt:=fun{W:World} hE=>Ua (g:=g) (w:=W) hE hD1 hm e2
  refine iQ ?_
  refine AQ O (og ?_)
  refine eH ?_
  refine tJ ?_
  refine AQ O (BL H O (XR _) (avN O) fun W1 H=>s_call O (hSt (H.Bl 1 O)) (JI O) ?_)
  rintro e W1 ⟨rfl,H'⟩
  refine⟨_,rfl,?_⟩
  have H:=H.CX 1 rfl H';clear H';simp only[Bv]at H
  refine eu ?_
  refine⟨d2,⟨h2.D,fun x h3=>?_,fun x h3=>?_,fun j h3=>?_⟩,rfl,Hr H.drop⟩
  ·show _=if x=0 then _ else _
   rw[hg2]
   by_cases e:x=0
   ·subst e;rw[if_pos Y,if_pos rfl]
   ·rw[if_neg Y,if_neg e];exact hz x Y h3
  ·rw[hg2,if_neg Y];exact ho x Y
  ·rw[h2.k j (fun e=>h3 a Y Y e.symm)];exact hk j h3
end
end
section
section
open Go.RowKit
def Hl(hs:List Ob.H3)(n:Nat)(k:Nat)(a:Int):Prop:=∃(b:Nat) (i:Int),1≤b∧b<n∧hs[b]? =some (1,(k:Int),0)∧0≤i∧i<Cl.cells k∧a=Ja b k i
structure GK (c:List Int) (s:IX) (N:Nat) (X:Int→Prop):Prop where
 hl:s.hs.length=s.n
 n2:2≤s.n∧s.n≤256
 sm:Yr s.hs
 hd:aer c s.hs
 rn:Rn.Ok s.S s.E s.n (QY s.hs s.n)
 su:Gn s.bU s.AU s.cU s.U
 ul:s.U.length=512*s.n
 fs:PK s.M (xsOf s.F)
 fr:ML s.F s.FL N
 cl:c.length=512*s.n
 us:∀a,Ee s.U a=true→Ob.pl s.n c s.hs a=true
 fm:∀k,k<32→∀a,a∈cls (xsOf s.F) k↔Hl s.hs s.n k a∧Ee s.U a=false∧¬X a
theorem U2{b k i:Int}(hk:0≤k∧k<32)(hi:0≤i∧i<Cl.cells k):b*512≤Ja b k i∧Ja b k i+Cl.words k≤b*512+512:=by
 have:=Ce.ahc k i hk.1 hk.2 hi.1 hi.2
 unfold Ja;omega
theorem FP{b k i:Int}(hk:0≤k∧k<32)(hi:0≤i∧i<Cl.cells k):Ja b k i/512=b:=by
 have:=U2 (b:=b) hk hi
 have hw:=Cl.Gt k hk.1 hk.2
 omega
theorem Hl.bd{hs:List Ob.H3}{n k:Nat}{a:Int}(h:Hl hs n k a)(hk:k<32):512≤a∧a+Cl.words k≤512*n:=by
 obtain⟨b,i,h1,h2,_,h4,h5,rfl⟩:=h
 have:=U2 (b:=(b:Int)) (k:=(k:Int)) Y ⟨h4,h5⟩
 omega
section
variable{g:Geo}{s:IX}{w:World}
theorem abq(hE:Dj (s.L g) w)(hU:Gn s.bU s.AU s.cU s.U)(a:Int):
 Calls prog 152 [ptr s.pA,.int .i64 a].toArray w fun e w'=>e= .returned (.bool (Ee s.U a))∧Only [] w w':=by
 have HR:=Heap.start hE
 have H:=Heap.nil w
 have hH:=fun{W:World} hE=>aeu (p:=s.pU) hU W hE a
 unfold IX.L IX.C at HR
 generalize ids _=I at*
 refine BO 11 func152 O (AP (BH O (uj ?_)))
 refine BI O Pm (iF ?_)
 refine AQ O (BL H O (hH ((HR.same H.only).Bl 5 O)) (Qb O) fun W1 H=>iP ?_)
 exact⟨rfl,H.only⟩
theorem Yd(hE:Dj (s.L g) w):
 Calls prog 118 [ptr s.pA].toArray w fun e w'=>e= .returned (ptr g.p)∧Only [] w w':=by
 have HR:=Heap.start hE
 have H:=Heap.nil w
 unfold IX.L IX.C at HR
 generalize ids _=I at*
 refine BO 7 func118 O (AP (Fb O (uj ?_)))
 refine BI O aeR (BG (HR.same H.only) 0 O O O J7 (sQ ?_))
 exact⟨rfl,H.only⟩
end
theorem GK.fresh{c:List Int}{s:IX}{N:Nat}{X:Int→Prop}(h:GK c s N X){b:Nat}(hb:QY s.hs s.n b)(k:Nat)(hk:k<32)(i:Int)(hi:0≤i∧i<Cl.cells k):Ee s.U (Ja b k i)=false:=by
 cases hu:Ee s.U (Ja b k i)with
 |false=>rfl
 |true=>
  have hp:=h.us _ hu
  obtain⟨h1,h2,h3⟩:=Ob.OW hp
  obtain⟨b1,b2,x,b3,b4⟩:=hb
  rw[BJ]at b3
  have hblk:=FP (b:=(b:Int)) (k:=(k:Int)) Y hi
  unfold Ob.pl at hp
  rw[hblk,BJ,b3]at hp
  simp only[FQ]at hp
  have hpa:=hp.2.2
  unfold Ob.agS at hpa
  split at hpa
  ·simp only[FQ,decide_eq_true_eq]at hpa
   rw[hpa.2]at b4;cases b4
  ·simp only[FQ]at hpa
   have hw:=hpa.1
   unfold Ob.whole at hw
   rw[hblk,BJ,b3]at hw
   simp only[FQ,decide_eq_true_eq]at hw
   rw[b4]at hw
   exact absurd hw.1 Ak
end
end
section
section
theorem akP{hs:List Ob.H3}(h:Yr hs)(b:Nat):Ob.whole hs b=false:=by
 unfold Ob.whole
 cases hb:hs[b]? with
 |none=>rfl
 |some x=>
  have:=h.kind hb
  simp only
  rw[decide_eq_false Y];rfl
theorem Vl{n:Nat}{c:List Int}{hs:List Ob.H3}(hB:Yr hs)(hl:hs.length=n)(a:Int):Ob.pl n c hs a=true↔Ob.hd c a=true∧Cl.ofB (Cl.size (Ob.hp c a) (Ob.hq c a))=true∧∃k:Nat,k<32∧Cl.Yo (Cl.size (Ob.hp c a) (Ob.hq c a))=k∧Hl hs n k a:=by
 generalize hz:Cl.size (Ob.hp c a) (Ob.hq c a)=z
 have hk:=Cl.YJ z
 have hw:=Cl.Gt (Cl.Yo z) hk.1 hk.2
 constructor
 ·intro h
  obtain⟨h1,h2,h3⟩:=Ob.OW h
  unfold Ob.pl at h
  simp only[FQ]at h
  have h4:=h.2.2
  cases hb:hs[(a/512).toNat]? with
  |none=>rw[hb]at h4;cases h4
  |some x=>
   rw[hb]at h4
   simp only at h4
   unfold Ob.agS at h4
   rw[hz]at h4
   by_cases ho:Cl.ofB z=true
   ·rw[if_pos ho]at h4
    simp only[FQ,decide_eq_true_eq,beq_iff_eq]at h4
    obtain⟨h5,h6⟩:=h4
    refine⟨h3,ho,(Cl.Yo z).toNat,Y,Y,(a/512).toNat,a%512/Cl.words (Cl.Yo z),Y,Y,?_,?_,?_,?_⟩
    ·rw[hb,h6,FY hk.1]
    ·exact PV Y Y
    ·rw[FY hk.1]
     by_cases h7:a%512/Cl.words (Cl.Yo z)<Cl.cells (Cl.Yo z)
     ·exact h7
     ·rw[Ce.MQ _ _ _ _ (fun h8=>h7 h8.2.2.2.2.2)]at h5;omega
    ·by_cases h7:0≤Cl.Yo z∧Cl.Yo z<32∧1≤a/512∧a/512<(n:Int)∧0≤a%512/Cl.words (Cl.Yo z)∧a%512/Cl.words (Cl.Yo z)<Cl.cells (Cl.Yo z)
     ·rw[Ce.Uc _ _ _ _ h7.1 h7.2.1 h7.2.2.1 h7.2.2.2.1 h7.2.2.2.2.1 h7.2.2.2.2.2]at h5
      unfold Ja
      rw[FY hk.1,FY Y]
      exact h5.symm
     ·rw[Ce.MQ _ _ _ _ h7]at h5;omega
   ·rw[if_neg ho,akP hB]at h4
    cases h4
 ·rintro⟨h1,h2,k,h3,h4,b,i,b1,b2,b3,i1,i2,e⟩
  have hbd:=U2 (b:=(b:Int)) (k:=(k:Int)) (i:=i) Y ⟨i1,i2⟩
  have hw2:=Cl.Gt (k:Int) Y Y
  have hblk:a/512=b:=by rw[e];exact FP Y ⟨i1,i2⟩
  have hmod:a%512=i*Cl.words k:=by
   have h8:Ja b k i=b*512+i*Cl.words k:=rfl
   omega
  have hdiv:a%512/Cl.words k=i:=by rw[hmod];exact Int.mul_ediv_cancel _ Y
  unfold Ob.pl
  rw[h1,decide_eq_true Y,hblk,BJ,b3]
  simp only[Gy]
  unfold Ob.agS
  rw[hz,if_pos h2,h4,hblk,hdiv,Ce.Uc _ _ _ _ Y Y Y Y i1 i2]
  have h8:(b:Int)*512+i*Cl.words k=a:=by rw[e];rfl
  rw[h8]
  simp
theorem Ph{c c':List Int}{a:Int}(hl:c'.length=c.length)(hg:Nv.get c' a=Nv.get c a):Ob.hd c' a=Ob.hd c a∧Ob.hp c' a=Ob.hp c a∧Ob.hq c' a=Ob.hq c a:=by
 have e:Ob.hd c' a=Ob.hd c a:=by unfold Ob.hd;rw[hl,hg]
 exact⟨e,by unfold Ob.hp;rw[e,hg],by unfold Ob.hq;rw[e,hg]⟩
theorem Uo{hs:List Ob.H3}{n b k j:Nat}(hj:j<32)(hb:QY hs n b)(hl:hs.length=n)(a:Int)(ha:a/512≠b):Hl (hs.set b (1,(k:Int),0)) n j a↔Hl hs n j a:=by
 constructor
 ·rintro⟨b2,i,h1,h2,h3,h4,h5,rfl⟩
  rw[FP Y ⟨h4,h5⟩]at ha
  rw[Ez Y]at h3
  exact⟨b2,i,h1,h2,h3,h4,h5,rfl⟩
 ·rintro⟨b2,i,h1,h2,h3,h4,h5,rfl⟩
  rw[FP Y ⟨h4,h5⟩]at ha
  exact⟨b2,i,h1,h2,by rw[Ez Y];exact h3,h4,h5,rfl⟩
theorem Xb{hs:List Ob.H3}{n b j:Nat}(hj:j<32)(hb:QY hs n b){a:Int}(h:Hl hs n j a):a/512≠b:=by
 obtain⟨b2,i,h1,h2,h3,h4,h5,rfl⟩:=h
 rw[FP Y ⟨h4,h5⟩]
 intro e
 obtain⟨_,_,x,b3,b4⟩:=hb
 rw[BJ,show b=b2 by omega,h3]at b3
 injection b3 with b3
 subst b3
 cases b4
theorem GK.small{c c':List Int}{s:IX}{N:Nat}(h:GK c s N fun _=>False){b k:Nat}(hb:QY s.hs s.n b)(hk:k<32){S' E':IL}(hr:Rn.Ok S' E' s.n (QY (s.hs.set b (1,(k:Int),0)) s.n))
 (hl:c'.length=c.length) (hc:∀x,Nv.get c' x=if x=256+(b:Int)then Bh.enc 1 k 0 (256+(b:Int))else Nv.get c x):
 GK c' {s with hs:=s.hs.set b (1,(k:Int),0),S:=S',E:=E'} N fun a=>a/512=b:=by
 have hb1:=hb.1
 have hb2:=hb.2.1
 have hbl:b<s.hs.length:=by have:=h.hl;omega
 have hn:=h.n2
 refine⟨by simp[h.hl],h.n2,h.sm.set b Y,⟨?_,fun b2 x h1 h2=>?_⟩,hr,h.su,h.ul,h.fs,h.fr,by rw[hl];exact h.cl,fun a ha=>?_,fun j hj a=>?_⟩
 ·show(s.hs.set b (1,(k:Int),0))[0]? =_
  rw[Ez Y];exact h.hd.h0
 ·replace h2:(s.hs.set b (1,(k:Int),0))[b2]? =some x:=h2
  rw[hc]
  by_cases e:b2=b
  ·subst e
   rw[Gf hbl]at h2
   injection h2 with h2
   subst h2
   exact⟨Bh.EI _ _ _ (.inr (.inl ⟨rfl,by simp only;omega,by simp only;omega,rfl⟩)),by rw[if_pos rfl]⟩
  ·rw[Ez (fun e2=>e e2.symm)]at h2
   rw[if_neg Y]
   exact h.hd.at_ b2 x h1 h2
 ·have hp:=h.us a ha
  show Ob.pl s.n c' (s.hs.set b (1,(k:Int),0)) a=true
  rw[Vl (h.sm.set b Y) (by simp[h.hl])]
  obtain⟨p1,p2,j,p3,p4,p5⟩:=(Vl h.sm h.hl a).1 hp
  have hbd:=p5.bd p3
  have hg:Nv.get c' a=Nv.get c a:=by rw[hc,if_neg Y]
  obtain⟨g1,g2,g3⟩:=Ph hl hg
  rw[g1,g2,g3]
  exact⟨p1,p2,j,p3,p4,(Uo p3 hb h.hl a (Xb p3 hb p5)).2 p5⟩
 ·show a∈cls (xsOf s.F) j↔Hl (s.hs.set b (1,(k:Int),0)) s.n j a∧_
  rw[h.fm j hj]
  constructor
  ·rintro⟨h1,h2,_⟩
   have ho:=Xb hj hb h1
   exact⟨(Uo hj hb h.hl a ho).2 h1,h2,ho⟩
  ·rintro⟨h1,h2,h3⟩
   exact⟨(Uo hj hb h.hl a h3).1 h1,h2,fun h=>h⟩
theorem GK.asq{c:List Int}{s:IX}{N M:Nat}{b k:Nat}(h:GK c s N fun a=>a/512=b)(hb:1≤b∧b<s.n)(hk:k<32)(hh:s.hs[b]? =some (1,(k:Int),0)){F':Nat→EP}{KP:Vf}(hF:PK s.M (xsOf F'))(hFr:ML F' KP M)
 (h1:∀a,a∈cls (xsOf F') k↔a∈cls (xsOf s.F) k∨∃i:Int,0≤i∧i<Cl.cells k∧a=Ja b k i∧Ee s.U a=false) (h2:∀j,j≠k→cls (xsOf F') j=cls (xsOf s.F) j):GK c {s with F:=F',FL:=KP} M fun _=>False:=by
 refine⟨h.hl,h.n2,h.sm,h.hd,h.rn,h.su,h.ul,hF,hFr,h.cl,h.us,fun j hj a=>?_⟩
 show a∈cls (xsOf F') j↔Hl s.hs s.n j a∧Ee s.U a=false∧¬False
 by_cases e:j=k
 ·subst e
  rw[h1,h.fm j hj]
  constructor
  ·rintro(⟨h3,h4,_⟩|⟨i,i1,i2,rfl,h3⟩)
   ·exact⟨h3,h4,fun h=>h⟩
   ·exact⟨⟨b,i,hb.1,hb.2,hh,i1,i2,rfl⟩,h3,fun h=>h⟩
  ·rintro⟨h3,h4,_⟩
   by_cases hx:a/512=b
   ·obtain⟨b2,i,e1,e2,e3,e4,e5,rfl⟩:=h3
    rw[FP Y ⟨e4,e5⟩]at hx
    obtain rfl:b2=b:=Y
    exact .inr ⟨i,e4,e5,rfl,h4⟩
   ·exact .inl ⟨h3,h4,hx⟩
 ·rw[h2 j e,h.fm j hj]
  constructor
  ·rintro⟨h3,h4,_⟩;exact⟨h3,h4,fun h=>h⟩
  ·rintro⟨h3,h4,_⟩
   refine⟨h3,h4,fun hx=>?_⟩
   obtain⟨b2,i,e1,e2,e3,e4,e5,rfl⟩:=h3
   rw[FP Y ⟨e4,e5⟩]at hx
   obtain rfl:b2=b:=Y
   rw[hh]at e3
   injection e3 with e3
   injection e3 with _ e3
   injection e3 with e3 _
   omega
theorem GK.took{c:List Int}{s:IX}{N M:Nat}{k:Nat}(h:GK c s N fun _=>False)(hk:k<32){F':Nat→EP}{KP:Vf}{at_:Int}(hF:PK s.M (xsOf F'))(hFr:ML F' KP M)(h1:(cls (xsOf F') k++ [at_]).Perm (cls (xsOf s.F) k))(h2:∀j,j≠k→(cls (xsOf F') j).Perm (cls (xsOf s.F) j)):
 GK c {s with F:=F',FL:=KP} M (fun a=>a=at_)∧Hl s.hs s.n k at_∧Ee s.U at_=false:=by
 have hm:at_∈cls (xsOf s.F) k:=h1.mem_iff.1 J
 obtain⟨m1,m2,_⟩:=(h.fm k hk _).1 hm
 have hnd:=h1.nodup_iff.2 (h.fs.nd k hk)
 obtain⟨_,_,hdis⟩:=C9.1 hnd
 refine⟨⟨h.hl,h.n2,h.sm,h.hd,h.rn,h.su,h.ul,hF,hFr,h.cl,h.us,fun j hj a=>?_⟩,m1,m2⟩
 show a∈cls (xsOf F') j↔Hl s.hs s.n j a∧Ee s.U a=false∧¬a=at_
 by_cases e:j=k
 ·subst e
  have h3:=h1.mem_iff (a:=a)
  rw[h.fm j hj,Ci,Bz]at h3
  constructor
  ·intro h4
   obtain⟨h5,h6,_⟩:=h3.1 (.inl h4)
   exact⟨h5,h6,fun e=>hdis a h4 at_ J e⟩
  ·rintro⟨h4,h5,h6⟩
   exact(h3.2 ⟨h4,h5,fun h=>h⟩).resolve_right h6
 ·rw[(h2 j e).mem_iff,h.fm j hj]
  constructor
  ·rintro⟨h4,h5,_⟩
   refine⟨h4,h5,fun e2=>?_⟩
   subst e2
   obtain⟨b2,i,e1,e2,e3,e4,e5,e6⟩:=h4
   obtain⟨b3,i3,f1,f2,f3,f4,f5,f6⟩:=m1
   have hb2:=FP (b:=(b2:Int)) (k:=(j:Int)) (i:=i) Y ⟨e4,e5⟩
   have hb3:=FP (b:=(b3:Int)) (k:=(k:Int)) (i:=i3) Y ⟨f4,f5⟩
   rw[←e6]at hb2
   rw[←f6]at hb3
   obtain rfl:b2=b3:=Y
   rw[e3]at f3
   injection f3 with f3
   injection f3 with _ f3
   injection f3 with f3 _
   omega
  ·rintro⟨h4,h5,_⟩;exact⟨h4,h5,fun h=>h⟩
end
end
section
section
open Go.RowKit
theorem GK.perm{c:List Int}{s:IX}{N M:Nat}{X:Int→Prop}(h:GK c s N X){F':Nat→EP}{KP:Vf}(hF:PK s.M (xsOf F'))(hFr:ML F' KP M)(hp:∀j,(cls (xsOf F') j).Perm (cls (xsOf s.F) j)):GK c {s with F:=F',FL:=KP} M X:=
 ⟨h.hl,h.n2,h.sm,h.hd,h.rn,h.su,h.ul,hF,hFr,h.cl,h.us,fun j hj a=>by
  show a∈cls (xsOf F') j↔_
  rw[(hp j).mem_iff];exact h.fm j hj a⟩
structure Hst (d d':Nv.D) (m:Nat):Prop where
 D:Dv d' m
 o:∀x:Int,¬(256≤x∧x<512)→Nv.get d'.cache x=Nv.get d.cache x
 k:∀j,UU d j=false→UU d' j=false
theorem Hst.refl{d:Nv.D}{m:Nat}(h:Dv d m):Hst d d m:=⟨h,fun _ _=>rfl,fun _ h=>h⟩
theorem ahY{d d1 d2:Nv.D}{m b:Nat}{v:Int}(hD:Dv d m)(h1:ZB d d1 m (256+b) v)(h2:Per d1 d2 m (256+b) 1)(hm:512≤8*m)(hb:b<256):
 Hst d d2 m∧d2.cache.length=d.cache.length∧∀x:Int,Nv.get d2.cache x=if x=256+(b:Int)then v else Nv.get d.cache x:=by
 have hg:∀x:Int,Nv.get d2.cache x=if x=256+(b:Int)then v else Nv.get d.cache x:=fun x=>by
  rw[h2.c,h1.get Y hD.len x,show((256+b:Nat):Int)=256+(b:Int)by omega]
 refine⟨⟨h2.D,fun x hx=>by rw[hg,if_neg Y],fun j hj=>?_⟩,by rw[h2.D.len,hD.len],hg⟩
 by_cases e:j=(256+b)/8
 ·rw[e];exact h2.q (256+b) (BF _) Y
 ·exact h2.k j (by rw[h1.k j e];exact hj)
theorem ai3{L:List Int}{b k:Nat}{m:Nat}(hk:k<32)(hm:Cl.cells k=m)(hn:L.Nodup)(h:∀a,a∈L↔∃i:Int,0≤i∧i<Cl.cells k∧a=Ja b k i):L.length=m:=by
 have hnd:((List.range m).map fun(i:Nat)=>Ja b k i).Nodup:=by
  refine Ru.2 (List.nodup_range.imp ?_)
  intro i j hij e
  refine hij ?_
  rcases Nat.lt_trichotomy i j with h1|h1|h1
  ·have:=Tv (b:=(b:Int)) (k:=(k:Int)) Y (show(i:Int)<j by omega);omega
  ·exact h1
  ·have:=Tv (b:=(b:Int)) (k:=(k:Int)) Y (show(j:Int)<i by omega);omega
 have hp:L.Perm ((List.range m).map fun(i:Nat)=>Ja b k i):=by
  refine(QC hn hnd).2 fun a=>?_
  ·rw[h,DN]
   constructor
   ·rintro⟨i,h1,h2,rfl⟩
    exact⟨i.toNat,Fg.2 Y,by rw[FY h1]⟩
   ·rintro⟨i,h1,rfl⟩
    exact⟨i,Y,by have:=Fg.1 h1;omega,rfl⟩
 rw[hp.length_eq,DL,List.length_range]
theorem ao3{g:Geo}{d:Nv.D}{m n pM pT p c pX bS bE:Nat}{hs:List Ob.H3}{rs:List Value}{S E:IL}{w:World}(hE:Dj (grp (Dy g d)::ZM g n pM pT p hs rs c pX bS bE S E) w)(hD:Dv d m)(hg:Q5 g m)(hm:m≤100000)(hnm:256+n≤8*m)(hl:hs.length=n)(hn:n≤1000)(hO:Rn.Ok S E n (QY hs n))(k:Int)(hk:0≤k∧k<32)(hav:∃b:Nat,QY hs n b):
 Calls prog 218 [ptr pM,.int .i64 k].toArray w fun e w'=>∃(b:Nat) (d1 d2:Nv.D) (S' E':IL),1≤b∧b<n∧QY hs n b∧ZB d d1 m (256+b) (Bh.enc 1 k 0 (256+(b:Int)))∧Per d1 d2 m (256+b) 1∧Rn.Ok S' E' n (QY (hs.set b (1,k,0)) n)∧e= .returned (.tuple #[.int .i64 b,.int .i64 0])∧
  Heap w (ids (grp (Dy g d)::ZM g n pM pT p hs rs c pX bS bE S E)) (grp (Dy g d2)::ZM g n pM pT p (hs.set b (1,k,0)) rs c pX bS bE S' E') w':=
 (aoh hE hD hg hm hnm hl hn hO k hk).mono fun e w' h=>h.elim (fun h=>absurd hav.choose_spec (h.1 _)) id
def lk(F:Nat→EP)(k:Nat):Nat:=(cls (xsOf F) k).length
structure auY (m:Nat) (s:IX) (N k:Nat) (d d':Nv.D) (hs':List Ob.H3) (S' E':IL) (F':Nat→EP) (KP:Vf) (a:Int):Prop where
 D:Hst d d' m
 A:GK d'.cache {s with hs:=hs',S:=S',E:=E',F:=F',FL:=KP} (N+264) fun x=>x=a
 c:Hl hs' s.n k a
 u:Ee s.U a=false
 q:hs'=s.hs∧lk F' k+1=lk s.F k∨lk s.F k=0∧(∃b:Nat,QY s.hs s.n b∧hs'=s.hs.set b (1,(k:Int),0))∧(lk F' k:Int)+1=Cl.cells k
 o:∀j,j≠k→lk F' j=lk s.F j
theorem aqP(g:Geo)(d:Nv.D)(m:Nat)(s:IX)(N:Nat)(p q:Int)(k:Nat)(w:World)(hE:Dj (grp (Dy g d)::s.L g) w)(hD:Dv d m)(hg:Q5 g m)(hm:m≤100000)(hA:GK d.cache s N fun _=>False)(hN:N≤80000)(mu:Nat)(hmu:s.M k=mu)(hp:0≤p∧p≤63)(hq:0≤q∧q≤16384)(hz:Cl.ofB (Cl.size p q)=true)(hk:Cl.Yo (Cl.size p q)=k)
 (hroom:lk s.F k≠0∨∃b:Nat,QY s.hs s.n b):
 Calls prog 157 [ptr s.pA,.int .i64 mu,.agg [.int .i64 p,.int .i64 q].toArray].toArray w fun e w'=>∃d' hs' S' E' F' KP a,auY m s N k d d' hs' S' E' F' KP a∧e= .returned (.tuple #[.int .i64 a,.int .i64 0])∧
  Heap w (ids (grp (Dy g d)::s.L g)) (grp (Dy g d')::IX.L g {s with hs:=hs',S:=S',E:=E',F:=F',FL:=KP}) w':=by
 have H:=Heap.start hE
 have hkb:=Cl.YJ (Cl.size p q)
 have Jv:k<32:=Y
 have hcb:=Cl.Xx k
 have hn2:=hA.n2
 have hml:8*m=512*s.n:=by rw[←hD.len];exact hA.cl
 have hS:=fun(W:World)=>aeN p q W Y Y
 rw[hz,hk]at hS
 generalize ids (grp (Dy g d)::s.L g)=I at*
 unfold IX.L IX.C at H⊢
 by_cases h0:cls (xsOf s.F) k=[]
 ·have hav:=hroom.resolve_left (fun h=>h (by unfold lk;rw[h0];rfl))
  obtain⟨S1,e1,f1,p1⟩:=anl hA.fs Jv h0
  have hT:=fun{W:World} hE=>ami (p:=s.pF) (b:=s.bF) (w:=W) hE hA.fr Y (s.M k:Nat) k
  rw[e1,hmu]at hT
  simp only at hT
  refine BO 89 func157 O (AP (D9 H O O fun p5 _ H=>kG ?_))
  refine AP (tJ ?_)
  refine BL H O (hS _) (X3 O) fun W1 H=>tC ?_
  rintro e W1 ⟨rfl,F1,Xi,H',hF1,hx1⟩
  refine⟨_,rfl,?_⟩
  have H:=H.CX 8 rfl H';clear H';simp only[Bv]at H
  refine jP ?_
  refine AO (AP (AQ O (kC ?_)))
  refine A8 (A8 ?_)
  have hA1:=hA.perm (KP:=Xi) (M:=N+4) (by rw[hx1];exact f1) hF1 (fun j=>by rw[hx1];exact p1 j)
  have h01:cls (xsOf F1) k=[]:=by
   have:=(p1 k).length_eq
   rw[h0,Iu]at this
   rw[hx1];exact DU this
  have hcp:1≤Cl.cells k:=by
   rw[Cl.aaZ k Y Y]
   have:=Cl.U8 k
   have h2:=Cl.Gt k Y Y
   exact(KW Y).2 Y
  refine jw ?_
  refine BI O Qk (BG H 2 O O O Xt (AQ O ?_))
  refine s_call O ((by have H2:Heap w I ([_,_,_,_,_]++ [_,_,_,_]) _:=H.order [1,3,4,5,6,0,2,7,8] O O;exact ao3 H2.part hD hg hm Y hA.hl Y hA.rn k Y hav)) (asU O) ?_
  rintro e W1 ⟨b,d1,d2,S2,E2,hb1,hbn,hfr,st1,st2,hrn,rfl,H'⟩
  refine⟨_,rfl,?_⟩
  have H2:Heap w I ([_,_,_,_,_]++ [_,_,_,_]) _:=H.order [1,3,4,5,6,0,2,7,8] rfl rfl;have H3:=H2.step H' (fun i hi=>hi);clear H H' H2;simp only[ZM,EL,Ey]at H3;have H:Heap w I [_,_,_,_,_,_,_,_,_] _:=H3.order [5,0,6,1,2,3,4,7,8] rfl rfl;clear H3
  refine jP ?_
  refine AO (AP (AQ O (wO ?_)))
  refine A8 ?_
  obtain⟨hst,hlen2,hget⟩:=ahY hD st1 st2 Y Y
  have hA2:=hA1.small hfr Jv hrn hlen2 hget
  have hsb:(s.hs.set b (1,(k:Int),0))[b]? =some (1,(k:Int),0):=Gf (by have:=hA.hl;omega)
  have hC:=fun{W:World} hE=>aiQ g {s with hs:=s.hs.set b (1,(k:Int),0),S:=S2,E:=E2,F:=F1,FL:=Xi} W hE hA.su hn2.2 (N+4) Y hA1.fs hA1.fr b k ⟨hb1,hbn⟩ Jv (fun i _ _ hm=>by rw[show cls (xsOf F1) k=[]from h01]at hm;cases hm)
  refine DF (Bg O (AQ O (AQ O ?_)))
  refine s_call O ((by have H2:Heap w I ([_,_,_,_,_,_,_]++ [_,_]) _:=H.order [2,3,4,5,6,7,8,0,1] O O;exact hC H2.part)) (ap1 O) ?_
  rintro e W1 ⟨F2,FL2,rfl,f2,hF2,hm2,ho2,H'⟩
  refine⟨_,rfl,?_⟩
  have H2:Heap w I ([_,_,_,_,_,_,_]++ [_,_]) _:=H.order [2,3,4,5,6,7,8,0,1] rfl rfl;have H3:=H2.step H' (fun i hi=>hi);clear H H' H2;simp only[IX.L,IX.C,EL,Ey]at H3;have H:Heap w I [_,_,_,_,_,_,_,_,_] _:=H3.order [7,8,0,1,2,3,4,5,6] rfl rfl;clear H3
  refine AO (A8 ?_)
  have hA3:=hA2.asq ⟨hb1,hbn⟩ Jv hsb f2 hF2 hm2 ho2
  have hfresh:∀i:Int,0≤i→i<Cl.cells k→Ee s.U (Ja b k i)=false:=fun i h1 h2=>hA.fresh hfr k Jv i ⟨h1,h2⟩
  have aoi:∀a,a∈cls (xsOf F2) k↔∃i:Int,0≤i∧i<Cl.cells k∧a=Ja b k i:=fun a=>by
   rw[hm2]
   show a∈cls (xsOf F1) k∨_↔_
   rw[h01]
   constructor
   ·rintro(h|⟨i,h1,h2,h3,_⟩)
    ·cases h
    ·exact⟨i,h1,h2,h3⟩
   ·rintro⟨i,h1,h2,rfl⟩
    exact .inr ⟨i,h1,h2,rfl,hfresh i h1 h2⟩
  have hne:cls (xsOf F2) k≠[]:=fun h=>by
   have:=(aoi (Ja b k 0)).2 ⟨0,Y,Y,rfl⟩
   rw[h]at this;cases this
  obtain⟨S3,a,e3,f3,q1,q2⟩:=ahQ f2 Jv hne
  have hT2:=fun{W:World} hE=>ami (p:=s.pF) (b:=s.bF) (w:=W) hE hF2 Y (s.M k:Nat) k
  rw[e3,hmu]at hT2
  simp only at hT2
  refine jw ?_
  refine BI O VQ (BG H 2 O O O abo (AQ O (AQ O (s_call O (hT2 (H.Bl 8 O)) (als O) ?_))))
  rintro e W1 ⟨rfl,F3,FL3,H',hF3,hx3⟩
  refine⟨_,rfl,?_⟩
  have H:=H.CX 8 rfl H';clear H';simp only[Bv]at H
  refine bJ ?_
  refine AO (BM (Dx (aX ?_)))
  rw[←hx3]at f3 q1 q2
  obtain⟨t1,t2,t3⟩:=hA3.took (KP:=FL3) (M:=N+264) Jv f3 (by rw[show N+264=N+4+256+4 by omega];exact hF3) q1 q2
  have hlen:=q1.length_eq
  rw[Cj]at hlen
  obtain⟨mm,hmm⟩:∃mm:Nat,Cl.cells k=(mm:Int):=⟨(Cl.cells k).toNat,Y⟩
  have hall:=ai3 Jv hmm (f2.nd k Jv) aoi
  refine⟨d2,s.hs.set b (1,(k:Int),0),S2,E2,F3,FL3,a,⟨hst,t1,t2,t3,.inr ⟨by unfold lk;rw[h0];rfl,⟨b,hfr,rfl⟩,?_⟩,fun j hj=>?_⟩,rfl,H.drop⟩
  ·unfold lk
   rw[hmm]
   have h1:(cls (xsOf F3) k).length+1=mm:=by rw[←hall];exact hlen
   omega
  ·unfold lk
   rw[(q2 j hj).length_eq,ho2 j hj]
   show(cls (xsOf F1) j).length=_
   rw[hx1]
   exact(p1 j).length_eq
 ·obtain⟨S1,a,e1,f1,p1,p2⟩:=ahQ hA.fs Jv h0
  have hT:=fun{W:World} hE=>ami (p:=s.pF) (b:=s.bF) (w:=W) hE hA.fr Y (s.M k:Nat) k
  rw[e1,hmu]at hT
  simp only at hT
  refine BO 89 func157 O (AP (D9 H O O fun p5 _ H=>kG ?_))
  refine AP (tJ ?_)
  refine BL H O (hS _) (X3 O) fun W1 H=>tC ?_
  rintro e W1 ⟨rfl,F1,Xi,H',hF1,hx1⟩
  refine⟨_,rfl,?_⟩
  have H:=H.CX 8 rfl H';clear H';simp only[Bv]at H
  refine jP ?_
  refine AO (AP (AQ O (AV (D7 O O Y) (oV ?_))))
  refine AQ O (AQ O (nC ?_))
  rw[←hx1]at f1 p1 p2
  obtain⟨t1,t2,t3⟩:=hA.took (KP:=Xi) (M:=N+264) Jv f1 ⟨hF1.keys,hF1.got,fun i hi=>FC (hF1.len i hi) Y⟩ p1 p2
  refine⟨d,s.hs,s.S,s.E,F1,Xi,a,⟨Hst.refl hD,t1,t2,t3,.inl ⟨rfl,?_⟩,fun j hj=>(p2 j hj).length_eq⟩,rfl,H.drop⟩
  have:=p1.length_eq
  rw[Cj]at this
  exact this
end
end
section
section
open Go.RowKit
theorem auy(n:Int)(w:World)(hn:1≤n∧n≤1000):
 Calls prog 156 [.agg [.int .i64 n].toArray].toArray w fun e w'=>e= .returned (.int .i64 ((n-1)*512))∧Only [] w w':=by
 have H:=Heap.nil w
 refine BO 8 func156 O (AP (D9 H O O fun p1 _ H=>AY O (AO (AP (BI O QU (fV ?_))))))
 refine mD ?_
 refine Hu O O (Xr (c:=n-1) O O zW) (AV (Ya O O (wI Y)) (eu ?_))
 exact⟨rfl,H.only⟩
theorem Gn.put'{b:Nat}{A:Option Addr}{c:Nat}{l:List Bool}(h:Gn b A c l)(x:Int)(v:Bool):Gn b A c (Bm.put l x v):=
 ⟨fun h0=>h.row (by unfold Bm.nw at h0⊢;rw[Bm.Pv]at h0;exact h0),by rw[Bm.Pv];exact h.len⟩
theorem Hl.apart{hs:List Ob.H3}{n k j:Nat}{a x:Int}(ha:Hl hs n k a)(hx:Hl hs n j x)(hk:k<32)(hj:j<32)(hne:x≠a):¬(a≤x∧x<a+Cl.words k):=by
 obtain⟨b,i,b1,b2,b3,i1,i2,rfl⟩:=ha
 obtain⟨b',i',c1,c2,c3,j1,j2,rfl⟩:=hx
 have e1:=U2 (b:=(b:Int)) (k:=(k:Int)) (i:=i) Y ⟨i1,i2⟩
 have e2:=U2 (b:=(b':Int)) (k:=(j:Int)) (i:=i') Y ⟨j1,j2⟩
 have w2:=Cl.Gt (j:Int) Y Y
 intro h
 obtain rfl:b=b':=Y
 rw[b3]at c3
 injection c3 with c3
 injection c3 with _ c3
 injection c3 with c3 _
 obtain rfl:k=j:=Y
 rcases LQ i i' with h1|h1|h1
 ·have:=YG (show i+1≤i' by omega) (show 0≤Cl.words k by omega)
  rw[Int.add_mul,Rw]at this
  unfold Ja at h
  omega
 ·subst h1;exact hne rfl
 ·have:=Tv (b:=(b:Int)) (k:=(k:Int)) Y h1
  omega
theorem GK.made{c c':List Int}{s:IX}{N k n at_:Nat}{p q:Int}(h:GK c s N fun x=>x=(at_:Int))(hk:k<32)(hc:Hl s.hs s.n k at_)(hu:Ee s.U at_=false)(hp:0≤p∧p≤63)(hq:0≤q∧q≤16384)(hn:(n:Int)=1+p+q)(hz:Cl.ofB n=true)(hkk:Cl.Yo n=k)
 (hl:c'.length=c.length) (h1:Nv.get c' at_=Oh.enc p q at_) (h2:∀x:Int,¬((at_:Int)≤x∧x<at_+n)→Nv.get c' x=Nv.get c x):GK c' {s with U:=Bm.put s.U at_ true} N fun _=>False:=by
 have hbd:=hc.bd hk
 have hn2:=h.n2
 have hzz:1≤(n:Int)∧(n:Int)≤256:=by simpa [Cl.ofB]using hz
 have hnw:(n:Int)≤Cl.words k:=by rw[←hkk];exact(Cl.Tf n hzz.1 hzz.2).le
 have hul:0≤(at_:Int)∧(at_:Int)<s.U.length:=by rw[h.ul];have:=Cl.Gt k Y Y;omega
 have hput:∀a,Ee (Bm.put s.U at_ true) a=if(at_:Int)=a then true else Ee s.U a:=fun a=>Bm.V9 s.U at_ a true hul
 have hsz:Cl.size p q=n:=by rw[(Cl.Ns p q hp.1 hp.2 hq.1 hq.2).1];omega
 obtain⟨g1,g2,g3⟩:=Oh.Rt p q at_ hp.1 hp.2 hq.1 hq.2
 refine⟨h.hl,h.n2,h.sm,⟨h.hd.h0,fun b x b1 b2=>?_⟩,h.rn,h.su.put' _ _,by rw[Bm.Pv];exact h.ul,h.fs,h.fr,by rw[hl];exact h.cl,fun a ha=>?_,fun j hj a=>?_⟩
 ·have hbl:=(BK.1 b2).1
  have hhl:=h.hl
  replace hbl:b<s.hs.length:=hbl
  have:=h.hd.at_ b x b1 b2
  exact⟨this.1,by rw[h2 _ Y];exact this.2⟩
 ·replace ha:Ee (Bm.put s.U at_ true) a=true:=ha
  show Ob.pl s.n c' s.hs a=true
  rw[Vl h.sm h.hl]
  rw[hput]at ha
  by_cases e:(at_:Int)=a
  ·subst e
   have hhd:Ob.hd c' at_=true:=Ob.apY ⟨Y,by rw[hl,h.cl];have:=Cl.Gt k Y Y;omega⟩ (by rw[h1];exact g1) (by rw[h1,g2,g3,hsz,hl,h.cl];omega)
   have hpp:Ob.hp c' at_=p:=by unfold Ob.hp;rw[if_pos hhd,h1];exact g2
   have hqq:Ob.hq c' at_=q:=by unfold Ob.hq;rw[if_pos hhd,h1];exact g3
   rw[hpp,hqq,hsz]
   exact⟨hhd,hz,k,hk,hkk,hc⟩
  ·rw[if_neg e]at ha
   obtain⟨p1,p2,j,p3,p4,p5⟩:=(Vl h.sm h.hl a).1 (h.us a ha)
   have hap:=hc.apart p5 hk p3 (fun e2=>e e2.symm)
   have hg:Nv.get c' a=Nv.get c a:=h2 a Y
   obtain⟨k1,k2,k3⟩:=Ph hl hg
   rw[k1,k2,k3]
   exact⟨p1,p2,j,p3,p4,p5⟩
 ·show a∈cls (xsOf s.F) j↔Hl s.hs s.n j a∧Ee (Bm.put s.U at_ true) a=false∧¬False
  rw[h.fm j hj,hput]
  constructor
  ·rintro⟨h3,h4,h5⟩
   exact⟨h3,by rw[if_neg (fun e=>h5 e.symm)];exact h4,fun h=>h⟩
  ·rintro⟨h3,h4,_⟩
   by_cases e:(at_:Int)=a
   ·rw[if_pos e]at h4;cases h4
   ·rw[if_neg e]at h4;exact⟨h3,h4,fun e2=>e e2.symm⟩
end
end
section
section
open Go.RowKit
structure TJ (m:Nat) (s:IX) (N:Nat) (p q:Int) (n k:Nat) (d d':Nv.D) (hs':List Ob.H3) (S' E':IL) (F':Nat→EP) (KP:Vf) (a:Nat):Prop where
 dv:Dv d' m
 al:GK d'.cache {s with hs:=hs',S:=S',E:=E',F:=F',FL:=KP,U:=Bm.put s.U a true} (N+264) fun _=>False
 ce:Hl hs' s.n k a
 un:Ee s.U a=false
 w0:Nv.get d'.cache a=Oh.enc p q a
 wz:∀x:Nat,0<x→x<n→Nv.get d'.cache ((a+x:Nat):Int)=0
 ot:∀x:Int,¬((a:Int)≤x∧x<a+n)→¬(256≤x∧x<512)→Nv.get d'.cache x=Nv.get d.cache x
 cl:∀j,(∀x,a≤x→x<a+n→x/8≠j)→UU d j=false→UU d' j=false
 cap:hs'=s.hs∧lk F' k+1=lk s.F k∨lk s.F k=0∧(∃b:Nat,QY s.hs s.n b∧hs'=s.hs.set b (1,(k:Int),0))∧(lk F' k:Int)+1=Cl.cells k
 oth:∀j,j≠k→lk F' j=lk s.F j
theorem aon(g:Geo)(d:Nv.D)(m:Nat)(s:IX)(N:Nat)(p q:Int)(n k:Nat)(w:World)(hE:Dj (grp (Dy g d)::s.L g) w)(hD:Dv d m)(hg:Q5 g m)(hm:m≤100000)(hA:GK d.cache s N fun _=>False)(hN:N≤80000)(mu:Nat)(hmu:s.M k=mu)(hp:0≤p∧p≤63)(hq:0≤q∧q≤16384)(hn:(n:Int)=1+p+q)(hz:Cl.ofB n=true)(hk:Cl.Yo n=k)
 (hroom:lk s.F k≠0∨∃b:Nat,QY s.hs s.n b):
 Calls prog 92 [ptr s.pA,.int .i64 mu,.int .i64 p,.int .i64 q].toArray w fun e w'=>∃d' hs' S' E' F' KP a,TJ m s N p q n k d d' hs' S' E' F' KP a∧e= .returned (.tuple #[.int .i64 (a:Nat),.int .i64 0])∧
  Heap w (ids (grp (Dy g d)::s.L g)) (grp (Dy g d')::IX.L g {s with hs:=hs',S:=S',E:=E',F:=F',FL:=KP,U:=Bm.put s.U (a:Nat) true}) w':=by
 have H:=Heap.start hE
 have hn2:=hA.n2
 have hsz:Cl.size p q=n:=by rw[(Cl.Ns p q hp.1 hp.2 hq.1 hq.2).1];omega
 have hzz:1≤(n:Int)∧(n:Int)≤256:=by simpa [Cl.ofB]using hz
 have hml:8*m=512*s.n:=by rw[←hD.len];exact hA.cl
 have hS:=fun(W:World)=>aej p q W Y Y
 have hMo:=fun(W:World)=>auy s.n W Y
 rw[hsz]at hS
 have Jv:k<32:=by have:=Cl.YJ (n:Int);omega
 have axT:mu<4:=by rw[←hmu];exact hA.fs.m4 k
 have hnw:(n:Int)≤Cl.words k:=by rw[←hk];exact(Cl.Tf n hzz.1 hzz.2).le
 generalize ids (grp (Dy g d)::s.L g)=I at*
 have hR:=fun{W:World} hE=>aqP g d m s N p q k W hE hD hg hm hA hN mu hmu hp hq (by rw[hsz];exact hz) (by rw[hsz];exact hk) hroom
 unfold IX.L IX.C at H⊢
 refine BO 65 func92 O (AP (kG ?_))
 refine AP (AQ O (AQ O (AV (FI (ajT _ _) O) (Ei H O G8 fun p10 _ H=>iH ?_))))
 clear H;refine axS fun _ H=>?_
 refine AO (A8 (E8 (AP (AQ O (AV (Di O O Y) (BX O (Bo 20 O (Gm O) (Bo 20 O (Fz O O Y) (DW O O (BH O (AO (DC O (A8 ?_)))))))))))))
 refine Gl (fun f W=>f 0=ptr s.pA∧f 1= .int .i64 mu∧f 10=ptr p10∧f 24= .bool false∧Heap w I [blk p10 [.int .i64 p,.int .i64 q] 205,grp (Dy g d),blk s.pA [ptr s.pM,ptr g.p,.int .i64 s.n,pt s.pU,Q7 s.pF] 238,blk s.pM (mnC s.pT s.pX s.n) 265,blk s.pT (tbC g s.n s.ph s.hc) 306,hrow s.ph s.hs s.rs,grp (RI s.pX s.bS s.bE s.S s.E s.n),grp (II s.pU s.bU s.AU s.cU s.U),grp (ZK s.pF s.bF s.F s.F s.FL)] W) ?_ ?_
 ·refine G5 mixed ?_;replace H:=H.drew
  refine BD 0 O (tJ ?_)
  refine ak ?_
  refine BD 1 O (BL H O (hS _) (Zc O) fun W1 H=>ak ?_)
  refine CZ 2 O O O (fun _ hS=>D5 O O Y) trivial (CZ 3 O O O (fun _ hS=>Cc (v:= .bool _) O) trivial (CZ 6 O O (ET 28 Aw O) (fun _ hS=>Cc (v:= .pointer _) O) trivial (CZ 7 O O (ET 28 Aw O) (fun _ hS=>DT O) trivial (CZ 8 O O (ET 28 Aw O) (fun _ hS=>Cm O TL) trivial ?_))))
  refine Et 4 9 ?_ ?_
  ·refine CB O (Bo 28 O (J5 H 0 O O O Fa DV) (ak ?_))
   refine Et 5 9 ?_ ?_
   ·refine CB O (s_call (ET 28 Aw O) (hS _) (Zc O) ?_)
    rintro e W1 ⟨rfl,H'⟩
    refine⟨_,rfl,?_⟩
    have H:=H.same H';clear H'
    refine sU ?_
    refine wY ?_
    refine uM ?_
    rintro e W1 ⟨rfl,H'⟩
    refine⟨_,rfl,?_⟩
    have H:=H.same H';clear H'
    refine ak ?_
    refine fO ?_
    exact⟨rfl,rfl,rfl,rfl,H⟩
   ·refine CB O (wY ?_)
    refine oW ?_
    refine s_call (ET 28 Aw O) (hS _) (Zc O) ?_
    rintro e W1 ⟨rfl,H'⟩
    refine⟨_,rfl,?_⟩
    have H:=H.same H';clear H'
    refine uM ?_
    rintro e W1 ⟨rfl,H'⟩
    refine⟨_,rfl,?_⟩
    have H:=H.same H';clear H'
    refine ak ?_
    refine fO ?_
    exact⟨rfl,rfl,rfl,rfl,H⟩
  ·refine CB O (wY ?_)
   refine jd ?_
   refine Bo 28 O (J5 H 0 O O O Fa DV) (oW ?_)
   refine s_call (ET 28 Aw O) (hS _) (Zc O) ?_
   rintro e W1 ⟨rfl,H'⟩
   refine⟨_,rfl,?_⟩
   have H:=H.same H';clear H'
   refine uM ?_
   rintro e W1 ⟨rfl,H'⟩
   refine⟨_,rfl,?_⟩
   have H:=H.same H';clear H'
   refine ak ?_
   refine fO ?_
   exact⟨rfl,rfl,rfl,rfl,H⟩
 clear H
 rintro f W ⟨f0,f1,f10,f24,H⟩
 obtain⟨f,rfl⟩:=Jj f0 f1 f10 f24
 clear f0 f1 f10 f24
 refine AX (jY ?_)
 refine eH ?_
 refine tJ ?_
 refine s_call O (hR H.drop.ents) (avn O) ?_
 rintro e W1 ⟨d1,hs1,S1,E1,F1,Xi,a,hP,rfl,H'⟩
 refine⟨_,rfl,?_⟩
 have H2:Heap w I ([_,_,_,_,_,_,_,_]++ [_]) _:=H.order [1,2,3,4,5,6,7,8,0] rfl rfl;have H3:=H2.step H' (fun i hi=>hi);clear H H' H2;simp only[IX.L,IX.C,EL,Ey]at H3;have H:Heap w I [_,_,_,_,_,_,_,_,_] _:=H3.order [8,0,1,2,3,4,5,6,7] rfl rfl;clear H3
 refine pG ?_
 refine A8 (A8 ?_)
 have hcb:=hP.c.bd Jv
 obtain⟨b,rfl⟩:=BR (show 0≤a by omega)
 have hl1:d1.cache.length=512*s.n:=by rw[hP.D.D.len];exact hml
 have hIn:=fun{W:World} hE=>ard g d1 m b p q n W hE hP.D.D hm hp hq hn Y
 refine Gl (fun f W=>∃d2,Wri d1 d2 m b n (fun x=>if x=0 then Oh.enc p q b else 0)∧f 0=ptr s.pA∧f 11= .int .i64 b∧f 13= .int .i64 0∧Heap w I [grp (Dy g d2),blk s.pA [ptr s.pM,ptr g.p,.int .i64 s.n,pt s.pU,Q7 s.pF] 238,blk s.pM (mnC s.pT s.pX s.n) 265,blk s.pT (tbC g s.n s.ph s.hc) 306,hrow s.ph hs1 s.rs,grp (RI s.pX s.bS s.bE S1 E1 s.n),grp (II s.pU s.bU s.AU s.cU s.U),grp (ZK s.pF s.bF F1 F1 Xi)] W) ?_ ?_
 ·refine G5 mixed ?_;replace H:=H.drew
  refine bg ?_
  refine CZ 2 O O O (fun _ hS=>Cm O aeR) trivial (qB ?_)
  refine Et 3 5 ?_ ?_
  ·refine mY ?_
   refine BD 5 O (tJ ?_)
   refine ak ?_
   refine BD 6 O (s_call O (hIn (H.Bl 1 O)) (ap' O) ?_)
   rintro e W1 ⟨d2,hW,rfl,H'⟩
   refine⟨_,rfl,?_⟩
   have H:=H.CX 1 rfl H';clear H';simp only[Bv]at H
   refine ak ?_
   refine CZ 7 O O O (fun _ hS=>DK (v:= .int _ _) O) trivial (CU (Dp ?_))
   exact⟨d2,hW,rfl,rfl,rfl,H.drop⟩
  ·refine CB O (tJ ?_)
   refine lY ?_
   refine BG H 2 O O O J7 (ak ?_)
   refine BD 6 O (s_call O (hIn (H.Bl 1 O)) (ap' O) ?_)
   rintro e W1 ⟨d2,hW,rfl,H'⟩
   refine⟨_,rfl,?_⟩
   have H:=H.CX 1 rfl H';clear H';simp only[Bv]at H
   refine ak ?_
   refine CZ 7 O O O (fun _ hS=>DK (v:= .int _ _) O) trivial (CU (Dp ?_))
   exact⟨d2,hW,rfl,rfl,rfl,H.drop⟩
 clear H
 rintro f W ⟨d2,hW,f0,f11,f13,H⟩
 obtain⟨f,rfl⟩:=KI f0 f11 f13
 clear f0 f11 f13
 have hAd:=fun{W:World} hE=>adT (p:=s.pU) hA.su W hE (b:Int)
 have hin:decide (0≤(b:Int)∧(b:Int)<s.U.length)=true:=decide_eq_true (by rw[hA.ul];have:=Cl.Gt k Y Y;omega)
 have hno:Bm.has s.U b=false:=hP.u
 rw[hin,hno]at hAd
 simp only[Bool.not_false,Bool.and_self]at hAd
 refine AX (kK ?_)
 refine dL ?_
 refine BI O Pm (BG H 1 O O O Ig (AQ O (s_call O (hAd (H.Bl 6 O)) (ZO O) ?_)))
 rintro e W1 ⟨rfl,H'⟩
 refine⟨_,rfl,?_⟩
 have H:=H.CX 6 rfl H';clear H';simp only[Bv]at H
 refine AO (AP (AQ O (nS ?_)))
 have hw0:Nv.get d2.cache b=Oh.enc p q b:=by have:=hW.i 0 Y;simpa using this
 refine⟨d2,hs1,S1,E1,F1,Xi,b,⟨hW.D,hP.A.made Jv hP.c hP.u hp hq hn hz hk (by rw[hW.D.len,hP.D.D.len]) hw0 hW.o,hP.c,hP.u,hw0,fun x h1 h2=>?_,fun x h1 h2=>?_,fun j h1 h2=>?_,hP.q,hP.o⟩,rfl,H⟩
 ·have:=hW.i x h2
  rw[this]
  show(if x=0 then _ else _)=_
  rw[if_neg Y]
 ·rw[hW.o x h1];exact hP.D.o x h2
 ·rw[hW.k j h1];exact hP.D.k j h2
end
end
section
section
open Go.RowKit
theorem GK.congr{c:List Int}{s:IX}{N:Nat}{X AA:Int→Prop}(h:GK c s N X)(e:∀k a,k<32→Hl s.hs s.n k a→(X a↔AA a)):GK c s N AA:=
 ⟨h.hl,h.n2,h.sm,h.hd,h.rn,h.su,h.ul,h.fs,h.fr,h.cl,h.us,fun k hk a=>by
  rw[h.fm k hk]
  constructor
  ·rintro⟨h1,h2,h3⟩;exact⟨h1,h2,fun hy=>h3 ((e k a hk h1).2 hy)⟩
  ·rintro⟨h1,h2,h3⟩;exact⟨h1,h2,fun hx=>h3 ((e k a hk h1).1 hx)⟩⟩
theorem GK.anT{c:List Int}{s:IX}{N M:Nat}{b k:Nat}{X:Int→Prop}(h:GK c s N X)(hX:∀a,a/512=b→X a)(hb:1≤b∧b<s.n)(hk:k<32)(hh:s.hs[b]? =some (1,(k:Int),0)){F':Nat→EP}{KP:Vf}(hF:PK s.M (xsOf F'))(hFr:ML F' KP M)
 (h1:∀a,a∈cls (xsOf F') k↔a∈cls (xsOf s.F) k∨∃i:Int,0≤i∧i<Cl.cells k∧a=Ja b k i∧Ee s.U a=false) (h2:∀j,j≠k→cls (xsOf F') j=cls (xsOf s.F) j):GK c {s with F:=F',FL:=KP} M fun a=>X a∧a/512≠b:=by
 refine⟨h.hl,h.n2,h.sm,h.hd,h.rn,h.su,h.ul,hF,hFr,h.cl,h.us,fun j hj a=>?_⟩
 show a∈cls (xsOf F') j↔Hl s.hs s.n j a∧Ee s.U a=false∧¬(X a∧a/512≠b)
 by_cases e:j=k
 ·subst e
  rw[h1,h.fm j hj]
  constructor
  ·rintro(⟨h3,h4,h5⟩|⟨i,i1,i2,rfl,h3⟩)
   ·exact⟨h3,h4,fun h=>h5 h.1⟩
   ·exact⟨⟨b,i,hb.1,hb.2,hh,i1,i2,rfl⟩,h3,fun h=>h.2 (FP Y ⟨i1,i2⟩)⟩
  ·rintro⟨h3,h4,h5⟩
   by_cases hx:a/512=b
   ·obtain⟨b2,i,e1,e2,e3,e4,e5,rfl⟩:=h3
    rw[FP Y ⟨e4,e5⟩]at hx
    obtain rfl:b2=b:=Y
    exact .inr ⟨i,e4,e5,rfl,h4⟩
   ·exact .inl ⟨h3,h4,fun hxx=>h5 ⟨hxx,hx⟩⟩
 ·rw[h2 j e,h.fm j hj]
  constructor
  ·rintro⟨h3,h4,h5⟩;exact⟨h3,h4,fun h=>h5 h.1⟩
  ·rintro⟨h3,h4,h5⟩
   refine⟨h3,h4,fun hx=>h5 ⟨hx,?_⟩⟩
   obtain⟨b2,i,e1,e2,e3,e4,e5,rfl⟩:=h3
   rw[FP Y ⟨e4,e5⟩]
   intro hbb
   obtain rfl:b2=b:=Y
   rw[hh]at e3
   injection e3 with e3
   injection e3 with _ e3
   injection e3 with e3 _
   omega
theorem ahm{hs:List Ob.H3}(h:Yr hs):hsW hs:=fun x hx=>by
 rcases h x hx with rfl|⟨k,_,_,rfl⟩
 ·exact⟨by simp only;omega,by simp only;omega⟩
 ·exact⟨by simp only;omega,by simp only;omega⟩
theorem aii(g:Geo)(d:Nv.D)(s:IX)(w:World)(hE:Dj (grp (Dy g d)::s.L g) w)(hW:Ob.Qv d.cache)(hl:s.hs.length=s.n)(hn:1≤s.n∧s.n≤256)(hB:Yr s.hs)(hcl:d.cache.length=512*s.n)(a:Int)(ha: -9223372036854775808≤a∧a≤9223372036854775807):
 Calls prog 184 [ptr s.pA,.int .i64 a].toArray w fun e w'=>(∃P D:Int,e= .returned (.tuple [.agg [.int .i64 P,.int .i64 D].toArray,.bool (Ob.pl s.n d.cache s.hs a)].toArray)∧(Ob.pl s.n d.cache s.hs a=true→P=Ob.hp d.cache a∧D=Ob.hq d.cache a))∧Only [] w w':=by
 have HR:=Heap.start hE
 have H:=(Heap.nil w).Kr 1 3
 have hDv:=fun{W:World} (hO:Only [] w W)=>(HR.same hO).Bl 0 rfl
 unfold IX.L IX.C at HR
 generalize ids _=I at*
 refine BO 26 func184 O (AP (Ei H O G8 fun p4 _ H=>BH O (AO (A8 ?_))))
 refine Gl (fun f W=>∃P D:Int,(Ob.pl s.n d.cache s.hs a=true→P=Ob.hp d.cache a∧D=Ob.hq d.cache a)∧f 5= .bool (Ob.pl s.n d.cache s.hs a)∧f 4=ptr p4∧Heap w [] [blk p4 [.int .i64 P,.int .i64 D] 205,Ec 1 (.slice none 0 0) 0 [] 3] W) ?_ ?_
 ·refine JQ (A:=[_]) mixed H [1] O ?_;replace H:=H.drew
  refine uT ?_
  refine CZ 2 O O O (fun _ hS=>Cm O aeR) (H.BQ [1] O O) (CZ 3 O O O (fun _ hS=>DR (HR.same hS.only) 1 O O O J7) (H.BQ [1] O O) (uS ?_))
  refine CZ 6 O O O (fun _ hS=>Cm O TL) (H.BQ [1] O O) (CZ 7 O O O (fun _ hS=>JY (HR.same hS.only) 1 (vs:=[.int .i64 s.n]) O O O O Ic He) (H.BQ [1] O O) (uQ ?_))
  refine CZ 10 O O O (fun _ hS=>Cm O Qk) (H.BQ [1] O O) (CZ 11 O O O (fun _ hS=>DR (HR.same hS.only) 1 O O O Xt) (H.BQ [1] O O) (CZ 12 O O O (fun _ hS=>DT O) (H.BQ [1] O O) (CZ 13 O O O (fun _ hS=>Cm O La) (H.BQ [1] O O) (CZ 14 O O O (fun _ hS=>DR (HR.same hS.only) 2 O O O PO) (H.BQ [1] O O) (CZ 16 O O O (fun _ hS=>Cc (v:= .int _ _) O) (H.BQ [1] O O) (BD 15 O ?_))))))
  refine s_call O ((by have H2:Heap w I ([_,_]++ [_,_,_,_,_,_]) _:=(HR.same H.only).order [3,4,0,1,2,5,6,7] O O;exact aqg H2.part hl Y)) (aqh O) ?_
  rintro e W1 ⟨A',c',rfl,hSa,H'⟩
  refine⟨_,rfl,?_⟩
  have H:=H.same H';clear H'
  refine xu ?_
  refine BD 17 O (s_call O (afA (hDv H.only) hW Y A' s.n c' s.hs hSa hl Y (ahm hB) s.n Y a ha) (ak4 O) ?_)
  rintro e W1 ⟨⟨P,D,rfl,hPD⟩,H'⟩
  refine⟨_,rfl,?_⟩
  have H:=H.same H';clear H'
  refine xu ?_
  refine CZ 18 O O O (fun _ hS=>CQ (v:= .agg _) O O) (H.BQ [1] O O) (CZ 19 O O O (fun _ hS=>CQ (v:= .bool _) O O) (H.BQ [1] O O) (BD 20 O (Va H 0 O O O O O O O DV ?_)))
  clear H;refine axS fun _ H=>?_
  refine xu ?_
  refine CZ 21 O O O (fun _ hS=>DK (v:= .bool _) O) (H.BQ [1] O O) (CU (Dp ?_))
  exact⟨P,D,hPD,rfl,rfl,H⟩
 clear H
 rintro f W ⟨P,D,hPD,f5,f4,H⟩
 obtain⟨f,rfl⟩:=LZ f5 f4
 clear f5 f4
 refine AX (BM (ND O (JB H 0 O O O Fa DV) (Jt (v:= .bool _) O) ?_))
 exact⟨⟨P,D,rfl,hPD⟩,H.only⟩
end
end
section
section
open Go.RowKit
theorem aoY{U:List Bool}{x:Int}(hx:0≤x∧x<U.length)(a:Int):Ee (Bm.put U x true) a=if x=a then true else Ee U a:=Bm.V9 U x a true hx
theorem abg(n:Nat)(a:Int):Ee (List.replicate n false) a=false:=by
 unfold Ee Bm.at_
 simp only[List.getD,Ew]
 split<;>simp
theorem af'{n:Nat}(a:Int)(xs:List Int):(∀x∈xs,0≤x∧x<(n:Int))→Ee (Bm.puts (List.replicate n false) xs) a=decide (a∈xs):=by
 rw[←PS xs]
 induction xs.reverse with
 |nil=>intro _;rw[show Bm.puts (List.replicate n false) ([]:List Int).reverse=List.replicate n false from rfl,abg];simp
 |cons x r ih=>
  intro h
  rw[Rl]at h⊢
  have h1:=ih fun y hy=>h y (by simp at hy⊢;exact .inl hy)
  have h2:=h x J
  rw[Bm.aco,aoY (by rw[Bm.Vq,Dn];exact h2),h1]
  by_cases e:x=a
  ·subst e;simp
  ·rw[if_neg e]
   have e2:¬a=x:=fun h=>e h.symm
   simp[e2]
structure axD (c:List Int) (hs:List Ob.H3) (n:Nat) (S E:IL):Prop where
 hl:hs.length=n
 n2:2≤n∧n≤256
 sm:Yr hs
 hd:aer c hs
 rn:Rn.Ok S E n (QY hs n)
 cl:c.length=512*n
theorem aud(g:Geo)(d:Nv.D)(n pM pT p:Nat)(hs:List Ob.H3)(rs:List Value)(c pX bS bE:Nat)(S E:IL)(w:World)(hE:Dj (grp (Dy g d)::ZM g n pM pT p hs rs c pX bS bE S E) w)(hW:Ob.Qv d.cache)(hM:axD d.cache hs n S E)
 (LA:Option Addr) (ln lc:Nat) (l:List Int) (hS:I5 (Value.int .i64) w (ids (grp (Dy g d)::ZM g n pM pT p hs rs c pX bS bE S E)) LA l) (hl:l.length=ln) (hln:ln≤1000000) (hnd:l.Nodup) (M:Nat→Nat) (hMm:∀c,M c<4) (hpl:∀a∈l,Ob.pl n d.cache hs a=true):
 Calls prog 117 [ptr g.p,ptr pM,.slice LA ln lc].toArray w fun e w'=>∃(s:IX) (N:Nat),GK d.cache s N (fun _=>False)∧s.n=n∧s.hs=hs∧s.M=M∧N≤256*n∧(∀a,Ee s.U a=decide (a∈l))∧e= .returned (.tuple #[ptr s.pA,.int .i64 0])∧
  Heap w (ids (grp (Dy g d)::ZM g n pM pT p hs rs c pX bS bE S E)) (grp (Dy g d)::s.L g) w':=by
 have H:=Heap.start hE
 have hn2:=hM.n2
 have hcl:=hM.cl
 have hGe:=fun{W:World} hE=>aq8 (w:=W) (g:=g) (n:=n) (pM:=pM) (pT:=pT) (p:=p) (c:=c) (pX:=pX) (bS:=bS) (bE:=bE) (hs:=hs) (rs:=rs) (S:=S) (E:=E) hE
 have hNl:=fun{W:World} hE=>Zw g d W hE
 have hNw:=fun(W:World)=>bNew d.cache.length W Y
 generalize ids (grp (Dy g d)::ZM g n pM pT p hs rs c pX bS bE S E)=I at*
 unfold ZM at H
 refine BO 71 func117 O (AP (Fb O (sZ ?_)))
 refine Bg O (Bg O (BL H O (hGe H.drop.ents) (auF O) fun W1 H=>Bg O (BL H O (hNl (H.Bl 0 O)) (Qq O) fun W1 H=>s_call O (hNw _) (alJ O) ?_)))
 rintro e W1 ⟨pU,bU,AU,cU,rfl,hsu,H'⟩
 refine⟨_,rfl,?_⟩
 have H:=H.more (A:=[grp _]) (Io H');clear H';simp only[Bv]at H
 refine s_call O (atQ _) (auP O) ?_
 rintro e W1 ⟨pF,bF,rfl,H'⟩
 refine⟨_,rfl,?_⟩
 have H:=H.more (A:=[grp _]) (Io H');clear H';simp only[Bv]at H
 refine AV (FI (ZP _ _ _ _ _) O) (D9 H O O fun p24 _ H=>Fb O (AO (sS ?_)))
 refine xH ?_
 replace H:Heap w I [_,_,_,_,_,_,_,_] _:=H.order [3,0,4,5,6,7,2,1] rfl rfl
 change Heap w I (grp (Dy g d)::IX.L g ⟨p24,pM,pT,p,c,pX,bS,bE,pU,bU,cU,pF,bF,rs,S,E,hs,AU,List.replicate d.cache.length false,Pz,[],n,M⟩) _ at H
 obtain⟨s0,hs0⟩:∃s0:IX,s0=⟨p24,pM,pT,p,c,pX,bS,bE,pU,bU,cU,pF,bF,rs,S,E,hs,AU,List.replicate d.cache.length false,Pz,[],n,M⟩:=⟨_,rfl⟩
 rw[←hs0]at H
 have hsU:({s0 with U:=Bm.puts (List.replicate d.cache.length false) (l.take 0)}:IX)=s0:=by rw[hs0];rfl
 have hpA:s0.pA=p24:=by rw[hs0]
 have hpM:s0.pM=pM:=by rw[hs0]
 have hsn:s0.n=n:=by rw[hs0]
 have hsh:s0.hs=hs:=by rw[hs0]
 have hsM:s0.M=M:=by rw[hs0]
 have aut:Gn s0.bU s0.AU s0.cU (List.replicate d.cache.length false):=by rw[hs0];exact hsu
 have hsF:s0.F=Pz∧s0.FL=[]:=by rw[hs0];exact⟨rfl,rfl⟩
 have hsr:Rn.Ok s0.S s0.E n (QY hs n):=by rw[hs0];exact hM.rn
 rw[←hpA,←hpM]
 clear hs0 hpA hpM
 have hput:∀xs:List Int,Gn s0.bU s0.AU s0.cU (Bm.puts (List.replicate d.cache.length false) xs):=fun xs=>⟨fun h0=>aut.row (by rw[Bm.anK]at h0;exact h0),by rw[Bm.Vq];exact aut.len⟩
 have asn:∀a∈l,0≤a∧a<(d.cache.length:Int):=fun a ha=>by
  have:=Ob.OW (hpl a ha);omega
 refine EO (fun z f W=>∃(i:Nat),i≤ln∧z=ln-i∧f 1=ptr s0.pM∧f 8=ptr s0.pA∧f 25= .slice LA ln lc∧f 26= .int .i64 ln∧f 27= .int .i64 i∧Heap w I (grp (Dy g d)::IX.L g {s0 with U:=Bm.puts (List.replicate d.cache.length false) (l.take i)}) W) ln ⟨0,Y,rfl,rfl,rfl,rfl,rfl,rfl,by rw[hsU];exact H⟩ ?_
 clear H
 rintro z f W ⟨i,hi,rfl,f1,f8,f25,f26,f27,H⟩
 by_cases hin:i<ln
 ·obtain⟨x,hx⟩:∃x,l[i]? =some x:=⟨_,Ba Y⟩
  have hxm:=BP hx
  have hxr:=asn x hxm
  obtain⟨q,o,rfl,hqI,hrd⟩:=hS Y
  have cx:=hrd _ _ hx
  have hPl:=fun{W:World} hE=>aii g d {s0 with U:=Bm.puts (List.replicate d.cache.length false) (l.take i)} W hE hW (by show s0.hs.length=s0.n;rw[hsh,hsn];exact hM.hl) (by show 1≤s0.n∧_;rw[hsn];omega) (by show Yr s0.hs;rw[hsh];exact hM.sm) (by show _=512*s0.n;rw[hsn];exact hcl) x Y
  have hpx:Ob.pl s0.n d.cache s0.hs x=true:=by rw[hsn,hsh];exact hpl x hxm
  simp only[hpx]at hPl
  have hAd:=fun{W:World} hE=>adT (p:=s0.pU) (hput (l.take i)) W hE x
  have hno:Bm.has (Bm.puts (List.replicate d.cache.length false) (l.take i)) x=false:=by
   show Ee _ x=false
   rw[af' x _ fun y hy=>asn y (Jb hy)]
   refine decide_eq_false fun hm=>?_
   obtain⟨j,hj,e⟩:=Gg.1 hm
   rw[Ed]at hj
   rw[Rj]at e
   obtain⟨g1,g2⟩:=BK.1 hx
   exact Hf.1 hnd j i Y g1 Y (by rw[e,g2])
  rw[hno,Bm.Vq,Dn,decide_eq_true hxr,←Bm.aco,KT hx]at hAd
  simp only[Bool.not_false,Bool.and_self]at hAd
  obtain⟨f,rfl⟩:=OJ f1 f8 f25 f26 f27
  clear f1 f8 f25 f26 f27
  refine aB ?_
  refine lC ?_
  refine AV (Oe H O cx hqI FM) (AY O (AO (A8 (eH ?_))))
  refine s_call O (hPl H.ents) (apL O) ?_
  rintro e W1 ⟨⟨P,D,rfl,hPD⟩,H'⟩
  refine⟨_,rfl,?_⟩
  have H:=H.same H';clear H'
  refine cO ?_
  refine Ei H O G8 fun p11 _ H=>Va H 0 O O O O O O O DV ?_
  clear H;refine axS fun _ H=>?_
  refine BH O (AO (AP (BX O (eU ?_))))
  refine A8 ?_
  replace H:=H.drop
  simp only[IX.L,IX.C]at H
  refine jw ?_
  refine BI O Pm (BG H 1 O O O Ig (AQ O (s_call O (hAd (H.Bl 6 O)) (ZO O) ?_)))
  rintro e W1 ⟨rfl,H'⟩
  refine⟨_,rfl,?_⟩
  have H:=H.CX 6 rfl H';clear H';simp only[Bv]at H
  refine AV (Ea O) (AO (o8 ?_))
  exact⟨_,_,Y,rfl,i+1,Y,rfl,rfl,rfl,rfl,rfl,rfl,H⟩
 ·obtain rfl:i=ln:=Y
  rw[show l.take i=l by rw[←hl];exact F9]at H
  obtain⟨f,rfl⟩:=OJ f1 f8 f25 f26 f27
  clear f1 f8 f25 f26 f27 hsU
  obtain⟨U,hU⟩:∃U,Bm.puts (List.replicate d.cache.length false) l=U:=⟨_,rfl⟩
  have hUl:U.length=512*n:=by rw[←hU,Bm.Vq,Dn];exact hcl
  have hUi:∀a,Ee U a=decide (a∈l):=fun a=>by rw[←hU];exact af' a l asn
  have XF:=hput l
  rw[hU]at H XF
  have hok0:GK d.cache {s0 with U:=U} 0 fun a=>1≤a/512:=by
   refine⟨by show s0.hs.length=s0.n;rw[hsh,hsn];exact hM.hl,by show 2≤s0.n∧s0.n≤256;rw[hsn];exact hn2,by show Yr s0.hs;rw[hsh];exact hM.sm,by show aer _ s0.hs;rw[hsh];exact hM.hd,by show Rn.Ok s0.S s0.E s0.n (QY s0.hs s0.n);rw[hsn,hsh];exact hsr,XF,by show U.length=512*s0.n;rw[hsn];exact hUl,by show PK s0.M (xsOf s0.F);rw[hsF.1,hsM];exact PK.nil hMm,by show ML s0.F s0.FL 0;rw[hsF.1,hsF.2];exact al5,by show _=512*s0.n;rw[hsn];exact hcl,fun a ha=>?_,fun k hk a=>?_⟩
   ·show Ob.pl s0.n d.cache s0.hs a=true
    rw[hsn,hsh]
    replace ha:Ee U a=true:=ha
    rw[hUi]at ha
    exact hpl a (of_decide_eq_true ha)
   ·show a∈cls (xsOf s0.F) k↔Hl s0.hs s0.n k a∧Ee U a=false∧¬1≤a/512
    rw[hsF.1]
    have h0:cls (xsOf Pz) k=[]:=rfl
    rw[h0]
    constructor
    ·intro h;cases h
    ·rintro⟨h1,_,h2⟩
     have:=h1.bd hk
     omega
  obtain⟨s1,hs1⟩:∃s1:IX,s1={s0 with U:=U}:=⟨_,rfl⟩
  have aeX:s1.n=n:=by rw[hs1];exact hsn
  have ark:s1.hs=hs:=by rw[hs1];exact hsh
  have axa:s1.U=U:=by rw[hs1]
  have axc:s1.M=M:=by rw[hs1];exact hsM
  have atb:({s1 with F:=s0.F,FL:=s0.FL}:IX)=s1:=by rw[hs1]
  have e1:s0.pA=s1.pA:=by rw[hs1]
  have e2:s0.pM=s1.pM:=by rw[hs1]
  rw[←hs1]at H hok0
  rw[e1,e2]
  refine aU ?_
  refine AX (vT ?_)
  refine EO (fun z f W=>∃(b N:Nat) (F:Nat→EP) (FL:Vf),1≤b∧b≤n∧z=n-b∧GK d.cache {s1 with F:=F,FL:=FL} N (fun a=>(b:Int)≤a/512)∧N≤256*(b-1)∧f 1=ptr s1.pM∧f 8=ptr s1.pA∧f 13= .int .i64 b∧Heap w I (grp (Dy g d)::IX.L g {s1 with F:=F,FL:=FL}) W) (n-1) ⟨1,0,s0.F,s0.FL,Y,Y,rfl,by rw[atb];exact hok0,Y,rfl,rfl,rfl,by rw[atb];exact H⟩ ?_
  clear H hok0
  rintro z f W ⟨b,N,F,FL,hb1,hb,rfl,hok,hN,f1,f8,f13,H⟩
  obtain⟨f,rfl⟩:=KI f1 f8 f13
  clear f1 f8 f13
  have hLn:=fun{W:World} hE=>am9 (w:=W) (g:=g) (n:=s1.n) (pT:=s1.pT) (p:=s1.ph) (hs:=s1.hs) (rs:=s1.rs) (c:=s1.hc) hE
  rw[aeX]at hLn
  simp only[IX.L,IX.C,aeX]at H
  by_cases hbn:b<n
  ·obtain⟨h,hh⟩:∃h,s1.hs[b]? =some h:=⟨_,Ba (by rw[ark,hM.hl];exact hbn)⟩
   have hGt:=fun{W:World} hE=>ane (w:=W) (g:=g) (n:=n) (pT:=s1.pT) (p:=s1.ph) (hs:=s1.hs) (rs:=s1.rs) (c:=s1.hc) hE (by rw[ark];exact hM.hl) Y b hb1 h hh
   rcases hok.sm h (BP hh)with rfl|⟨k,hk0,Jv,rfl⟩
   ·refine wS ?_
    refine BL H O ((by have H2:Heap w I ([_,_]++ [_,_,_,_,_,_]) _:=H.order [3,4,0,1,2,5,6,7] O O;exact hLn H2.part)) (acz O) fun W1 H=>?_
    refine fC ?_
    refine dL ?_
    refine BI O La (BG H 2 O O O PO (AQ O ?_))
    refine BL H O ((by have H2:Heap w I ([_,_]++ [_,_,_,_,_,_]) _:=H.order [3,4,0,1,2,5,6,7] O O;exact hGt H2.part)) (acX O) fun W1 H=>?_
    refine Ei H O Jf fun p14 _ H=>tH ?_
    clear H;refine axS fun _ H=>?_
    refine AO (AP (BI O KX (fV ?_)))
    refine AV (D5 O O Y) (xJ ?_)
    refine⟨_,_,?_,rfl,b+1,N,F,FL,Y,Y,rfl,hok.congr fun k a hk hc=>?_,Y,rfl,rfl,rfl,by simp only[IX.L,IX.C,aeX];exact H.drop⟩
    ·omega
    ·obtain⟨b2,i,c1,c2,c3,c4,c5,rfl⟩:=hc
     rw[FP Y ⟨c4,c5⟩]
     have hne:b2≠b:=fun e=>by
      subst e
      replace c3:s1.hs[b2]? =_:=c3
      rw[hh]at c3;cases c3
     omega
   ·obtain⟨kk,rfl⟩:=BR hk0
    have hCv:=fun{W:World} hE=>aiQ g {s1 with F:=F,FL:=FL} W hE hok.su (by show s1.n≤256;omega) N Y hok.fs hok.fr b kk ⟨hb1,by show b<s1.n;omega⟩ Y (fun i i1 i2 hm=>by
     obtain⟨_,_,h3⟩:=(hok.fm kk Y _).1 hm
     rw[FP Y ⟨i1,i2⟩]at h3
     omega)
    refine wS ?_
    refine BL H O ((by have H2:Heap w I ([_,_]++ [_,_,_,_,_,_]) _:=H.order [3,4,0,1,2,5,6,7] O O;exact hLn H2.part)) (acz O) fun W1 H=>?_
    refine fC ?_
    refine dL ?_
    refine BI O La (BG H 2 O O O PO (AQ O ?_))
    refine BL H O ((by have H2:Heap w I ([_,_]++ [_,_,_,_,_,_]) _:=H.order [3,4,0,1,2,5,6,7] O O;exact hGt H2.part)) (acX O) fun W1 H=>?_
    refine Ei H O Jf fun p14 _ H=>tH ?_
    clear H;refine axS fun _ H=>?_
    refine AO (AP (BI O KX (fV ?_)))
    refine wO ?_
    refine DF (Bg O (AQ O (BI O aic (fV ?_))))
    refine s_call O ((by have H2:Heap w I ([_,_,_,_,_,_,_]++ [_,_]) _:=H.order [2,3,4,5,6,7,8,0,1] O O;have hE2:=H2.part;rw[←aeX]at hE2;exact hCv hE2)) (ap1 O) ?_
    rintro e W1 ⟨F2,FL2,rfl,hf2,hF2,hm2,ho2,H'⟩
    refine⟨_,rfl,?_⟩
    have H2:Heap w I ([_,_,_,_,_,_,_]++ [_,_]) _:=H.order [2,3,4,5,6,7,8,0,1] rfl rfl;simp only[IX.L,IX.C,aeX]at H';have H3:=H2.step H' (fun i hi=>hi);clear H H' H2;simp only[Bv]at H3;have H:Heap w I [_,_,_,_,_,_,_,_] _:=Heap.BQ H3 [8,0,1,2,3,4,5,6] rfl rfl;clear H3
    refine AZ (nY ?_)
    have hnx:=hok.anT (fun a ha=>Y) ⟨hb1,by show b<s1.n;omega⟩ Y hh hf2 hF2 hm2 ho2
    refine⟨_,_,?_,rfl,b+1,N+256,F2,FL2,Y,Y,rfl,hnx.congr fun k a hk hc=>?_,Y,rfl,rfl,rfl,by simp only[IX.L,IX.C,aeX];exact H⟩
    ·omega
    ·omega
  ·obtain rfl:b=n:=Y
   refine wS ?_
   refine BL H O ((by have H2:Heap w I ([_,_]++ [_,_,_,_,_,_]) _:=H.order [3,4,0,1,2,5,6,7] O O;exact hLn H2.part)) (acz O) fun W1 H=>?_
   refine og ?_
   refine AP (Bg O (qZ ?_))
   refine⟨{s1 with F:=F,FL:=FL},N,hok.congr fun k a hk hc=>?_,aeX,ark,axc,Y,fun a=>by show Ee s1.U a=_;rw[axa];exact hUi a,rfl,by simp only[IX.L,IX.C,aeX];exact H⟩
   have:=hc.bd hk
   replace this:512≤a∧a+Cl.words k≤512*(s1.n:Int):=this
   have hw:=Cl.Gt (k:Int) Y Y
   constructor
   ·intro h;omega
   ·intro h;exact absurd h (fun h=>h)
end
end
section
section
open Go.RowKit
theorem asX(most:Int)(w:World)(h:0≤most):Calls prog 188 [.int .i64 most].toArray w fun e w'=>∃p,e= .returned (ptr p)∧Heap w [] [blk p [.slice none 0 0,.int .i64 most,.int .i64 0] 317] w':=by
 have H:=Heap.nil w
 refine BO 7 func188 O (AP (Fb O (AO (AP (AQ O (Hu O O (Xr (c:=most) O O zW) (AV (FI (an6 _) O) (D9 H O O fun p6 _ H=>sQ ?_))))))))
 exact⟨_,rfl,H⟩
def mkE(pA pK pS p1 b1 c1 p2 b2 c2:Nat)(A1 A2:Option Addr)(L1 L2:List Bool)(st:List Value)(again:Bool)(cur:Int):List FU:=
 [blk pK [ptr pA,pt p1,pt p2,ptr pS,.bool again,.int .i64 cur] 274,blk pS st 317,grp (II p1 b1 A1 c1 L1),grp (II p2 b2 A2 c2 L2)]
theorem atr(g:Geo)(d:Nv.D)(s:IX)(most:Int)(w:World)(hE:Dj (grp (Dy g d)::s.L g) w)(hl:d.cache.length≤131072)(hm:0≤most):
 Calls prog 119 [ptr s.pA,.int .i64 most].toArray w fun e w'=>∃pK pS p1 b1 c1 p2 b2 c2 A1 A2,e= .returned (ptr pK)∧Gn b1 A1 c1 (List.replicate d.cache.length false)∧Gn b2 A2 c2 (List.replicate d.cache.length false)∧Heap w [] (mkE s.pA pK pS p1 b1 c1 p2 b2 c2 A1 A2 (List.replicate d.cache.length false) (List.replicate d.cache.length false) [.slice none 0 0,.int .i64 most,.int .i64 0] false d.cache.length) w':=by
 have HR:=Heap.start hE
 have H:=Heap.nil w
 have hNw:=fun(W:World)=>bNew d.cache.length W Y
 refine BO 19 func119 O (AP (Fb O (AO (AP (Bg O (BL H O (Yd (HR.same H.only).drop.ents) (ah9 O) fun W1 H=>BL H O (Zw g d _ ((HR.same H.only).Bl 0 O)) (Qq O) fun W1 H=>AY O (AO (eH ?_))))))))
 refine s_call O (hNw _) (alJ O) ?_
 rintro e W1 ⟨p1,b1,A1,c1,rfl,hs1,H'⟩
 refine⟨_,rfl,?_⟩
 have H:=H.more (A:=[grp _]) (Io H');clear H';simp only[Bv]at H
 refine AQ O (s_call O (hNw _) (alJ O) ?_)
 rintro e W1 ⟨p2,b2,A2,c2,rfl,hs2,H'⟩
 refine⟨_,rfl,?_⟩
 have H:=H.more (A:=[grp _]) (Io H');clear H';simp only[Bv]at H
 refine AQ O (s_call O (asX most _ hm) (aue O) ?_)
 rintro e W1 ⟨pS,rfl,H'⟩
 refine⟨_,rfl,?_⟩
 have H:=H.more H';clear H';simp only[Bv]at H
 refine AQ O (AV (FI (Zx _ _ _ _ _) O) (D9 H O O fun ZL _ H=>sQ ?_))
 exact⟨_,pS,p1,b1,c1,p2,b2,c2,A1,A2,rfl,hs1,hs2,H.order [0,1,3,2] rfl rfl⟩
theorem auZ(g:Geo)(d:Nv.D)(s:IX)(pK:Nat)(w:World)(hE:Dj (grp (Dy g d)::s.L g) w):
 Calls prog 120 [ptr s.pA,ptr pK].toArray w fun e w'=>∃p,e= .returned (ptr p)∧Heap w [] [blk p [ptr s.pA,ptr pK,.int .i64 s.n,.slice none 0 0] 276] w':=by
 have HR:=Heap.start hE
 have H:=Heap.nil w
 unfold IX.L IX.C at HR
 generalize ids _=I at*
 refine BO 17 func120 O (AP (Fb O (AO (AP (Bg O (uo ?_))))))
 refine BI O Qk (BG (HR.same H.only) 1 O O O Xt (BU O (BI O La (BG (HR.same H.only) 2 O O O PO ?_))))
 refine BL H O ((by have H2:Heap w I ([_,_]++ [_,_,_,_,_,_]) _:=(HR.same H.only).order [3,4,0,1,2,5,6,7] O O;exact am9 H2.part)) (acz O) fun W1 H=>?_
 refine AV (FI (afs _ _ _) O) (D9 H O O fun p16 _ H=>sQ ?_)
 exact⟨_,rfl,H⟩
theorem abU(z0 z1 z2:Option Addr)(z3:Nat)(B3 C3:Array Value)(W:World):(Instr.build 199 ([(0,.pointer z0),(1,.pointer z1),(2,.pointer z2),(3,.func (.func z3) B3 C3)]:List (Nat×Value)).toArray).run prog W= .ok (.agg ([(.pointer z0),(.pointer z1),(.pointer z2),(.func (.func z3) B3 C3),(.int .i64 0),(.int .i64 0),(.int .i64 0)]:List Value).toArray) W:=by kernel_rfl
def cyC(pA pK pW:Nat)(fv:Value)(ph cy st:Int):List Value:=[ptr pA,ptr pK,ptr pW,fv,.int .i64 ph,.int .i64 cy,.int .i64 st]
theorem atV(g:Geo)(d:Nv.D)(s:IX)(most:Int)(fn:Nat)(B C:Array Value)(w:World)(hE:Dj (grp (Dy g d)::s.L g) w)(hl:d.cache.length≤131072)(hm:0≤most):
 Calls prog 54 [ptr s.pA,.int .i64 most,.func (.func fn) B C].toArray w fun e w'=>∃pC pW pK pS p1 b1 c1 p2 b2 c2 A1 A2,e= .returned (ptr pC)∧Gn b1 A1 c1 (List.replicate d.cache.length false)∧Gn b2 A2 c2 (List.replicate d.cache.length false)∧
  Heap w [] [blk pC (cyC s.pA pK pW (.func (.func fn) B C) 0 0 0) 199,blk pW [ptr s.pA,ptr pK,.int .i64 s.n,.slice none 0 0] 276,grp (mkE s.pA pK pS p1 b1 c1 p2 b2 c2 A1 A2 (List.replicate d.cache.length false) (List.replicate d.cache.length false) [.slice none 0 0,.int .i64 most,.int .i64 0] false d.cache.length)] w':=by
 have HR:=Heap.start hE
 have H:=Heap.nil w
 refine BO 19 func54 O (AP (Fb O (AO (eH ?_))))
 refine s_call O (atr g d s most _ (HR.same H.only).ents hl hm) (atH O) ?_
 rintro e W1 ⟨pK,pS,p1,b1,c1,p2,b2,c2,A1,A2,rfl,hs1,hs2,H'⟩
 refine⟨_,rfl,?_⟩
 have H:=H.more (A:=[grp _]) (Io H');clear H';simp only[Bv]at H
 refine Fb O (AO (AP (Bg O (Bg O (Bg O (Bg O (s_call O (auZ g d s pK _ (HR.same H.only).ents) (avx O) ?_)))))))
 rintro e W1 ⟨pW,rfl,H'⟩
 refine⟨_,rfl,?_⟩
 have H:=H.more H';clear H';simp only[Bv]at H
 refine AV (Cc (v:= .func _ _ _) O) (AV (FI (abU _ _ _ _ _ _) O) (D9 H O O fun ZL _ H=>sQ ?_))
 exact⟨_,pW,pK,pS,p1,b1,c1,p2,b2,c2,A1,A2,rfl,hs1,hs2,H⟩
end
end
section
section
open Go.RowKit
def TF(g:Geo)(d:Nv.D)(s:IX):List FU:=grp (Dy g d)::s.L g
def hdE(pA pH pS b:Nat)(A:Option Addr)(c:Nat)(l:List Bool):List FU:=[blk pH [ptr pA,pt pS] 191,grp (II pS b A c l)]
def Shut(d:Nv.D)(s:IX)(P:Int→Prop):Prop:=∀x,P x→Ee s.U x=true→∀y∈Ob.ptrs d.cache x,P y
structure Ov (d:Nv.D) (s:IX) (l l':List Bool) (zs:List Int):Prop where
 len:l'.length=l.length
 up:∀x,Ee l x=true→Ee l' x=true
 got:∀a∈zs,Ee s.U a=true→a<l.length→Ee l' a=true
 cl:∀P,Shut d s P→(∀a∈zs,P a)→∀x,Ee l' x=true→Ee l x=true∨(P x∧Ee s.U x=true)
theorem Ov.nil(d:Nv.D)(s:IX)(l:List Bool):Ov d s l l []:=⟨rfl,fun _ h=>h,fun _ h=>(by cases h),fun _ _ _ _ h=> .inl h⟩
theorem Ov.app{d:Nv.D}{s:IX}{l m q:List Bool}{zs bs:List Int}(h:Ov d s l m zs)(k:Ov d s m q bs):Ov d s l q (zs++bs):=
 ⟨k.len.trans h.len,fun x hx=>k.up x (h.up x hx),fun a ha hu hl=>by
  rcases Ci.1 ha with h1|h1
  ·exact k.up a (h.got a h1 hu hl)
  ·exact k.got a h1 hu (by rw[h.len];exact hl),
 fun P hP ha x hx=>by
  rcases k.cl P hP (fun a h1=>ha a (Du _ h1)) x hx with h1|h1
  ·exact h.cl P hP (fun a h1=>ha a (CO _ h1)) x h1
  ·exact .inr h1⟩
theorem NZ{U:List Bool}{a:Int}(h:Ee U a=true):0≤a∧a<U.length:=by
 unfold Ee at h
 simp only[FQ,decide_eq_true_eq]at h
 refine⟨h.1,?_⟩
 have h2:=h.2
 unfold Bm.at_ at h2
 by_cases hlt:a.toNat<U.length
 ·omega
 ·rw[BN,DX Y]at h2;cases h2
theorem apl(g:Geo)(d:Nv.D)(s:IX)(w:World)(hE:Dj (TF g d s) w)(hl:d.cache.length≤131072):
 Calls prog 51 [ptr s.pA].toArray w fun e w'=>∃pH pS b A c,e= .returned (ptr pH)∧Gn b A c (List.replicate d.cache.length false)∧Heap w [] [grp (hdE s.pA pH pS b A c (List.replicate d.cache.length false))] w':=by
 have HR:=Heap.start hE
 have H:=Heap.nil w
 have hNw:=fun(W:World)=>bNew d.cache.length W Y
 refine BO 10 func51 O (AP (Fb O (AO (AP (Bg O (Bg O (BL H O (Yd (HR.same H.only).drop.ents) (ah9 O) fun W1 H=>BL H O (Zw g d _ ((HR.same H.only).Bl 0 O)) (Qq O) fun W1 H=>s_call O (hNw _) (alJ O) ?_)))))))
 rintro e W1 ⟨p1,b1,A1,c1,rfl,hs1,H'⟩
 refine⟨_,rfl,?_⟩
 have H:=H.more (A:=[grp _]) (Io H');clear H';simp only[Bv]at H
 refine AV (FI (ajH _ _) O) (D9 H O O fun p9 _ H=>sQ ?_)
 exact⟨_,p1,b1,A1,c1,rfl,hs1,Io H⟩
section
variable{pA pH pS b c:Nat}{A:Option Addr}{l:List Bool}{w:World}
theorem ave(hE:Dj (hdE pA pH pS b A c l) w)(hs:Gn b A c l)(a:Int):
 Calls prog 143 [ptr pH,.int .i64 a].toArray w fun e w'=>e= .returned (.bool (Ee l a))∧Only [] w w':=by
 have HR:=Heap.start hE
 have H:=Heap.nil w
 unfold hdE at HR
 have hH:=fun{W:World} hE=>aeu (p:=pS) hs W hE a
 refine BO 11 func143 O (AP (BH O (uj ?_)))
 refine BI O TU (iF ?_)
 refine AQ O (BL H O (hH ((HR.same H.only).Bl 1 O)) (Qb O) fun W1 H=>iP ?_)
 exact⟨rfl,H.only⟩
theorem am8(hE:Dj (hdE pA pH pS b A c l) w)(hs:Gn b A c l):
 Calls prog 98 [ptr pH].toArray w fun e w'=>∃B q,e= .returned (.slice B (Bm.elems l).length q)∧Heap w [] [Ec 1 (.slice B (Bm.elems l).length q) (Bm.elems l).length ((Bm.elems l).map (Value.int .i64)) 3] w':=by
 have HR:=Heap.start hE
 have H:=Heap.nil w
 unfold hdE at HR
 have hH:=fun{W:World} hE=>avH (p:=pS) hs W hE
 refine BO 8 func98 O (AP (EM O (uj ?_)))
 refine BI O TU (iF ?_)
 refine s_call O (hH ((HR.same H.only).Bl 1 O)) (asR O) ?_
 rintro e W1 ⟨B,q,rfl,H'⟩
 refine⟨_,rfl,?_⟩
 have H:=H.more H';clear H'
 refine rW ?_
 exact⟨B,q,rfl,H⟩
end
end
end
end Go.Proofs.YtppilhpcmkekbaaGreat
