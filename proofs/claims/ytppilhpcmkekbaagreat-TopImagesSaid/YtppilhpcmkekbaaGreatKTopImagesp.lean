/- Parts of the proof. -/
import Derived.Test.YtppilhpcmkekbaaGreatKTopImagesl
import Derived.Test.YtppilhpcmkekbaaGreatKTopImageso
set_option linter.unusedSimpArgs false
set_option linter.unusedVariables false
set_option linter.unusedSectionVars false
set_option maxRecDepth 100000
set_option maxHeartbeats 16000000
namespace Go.Proofs.YtppilhpcmkekbaaGreat
open Go.Proofs.Tryz
section
section
open Go.RowKit
def EL(l:List Int)(a:Nat):Nat→List Int
 |0=> []
 |k+1=>EL l a k++ [Nv.get l ((a:Int)+(k:Int))]
theorem Ny(l:List Int)(a:Nat):∀k,(EL l a k).length=k
 |0=>rfl
 |k+1=>by rw[EL,Cm,Ny l a k];rfl
theorem akN(l:List Int)(a k:Nat)(hk:k<16):(EL l a k++List.replicate (16-k) 0).set k (Nv.get l ((a:Int)+(k:Int)))=EL l a (k+1)++List.replicate (16-(k+1)) 0:=by
 rw[List.set_append,if_neg (by rw[Ny];omega),Ny,GX,show 16-k=(16-(k+1))+1 by omega,Fa,AZ,EL,DI]
 rfl
theorem avb{l:List Int}(h:Im.U l)(a:Int):0≤Nv.get l a∧Nv.get l a≤18446744073709551615:=by
 unfold Nv.get
 split
 ·rename_i hh
  rw[Ba,Ar Y]
  exact h _ (FT _)
 ·omega
theorem aed{l:List Int}(h:Im.U l)(a:Nat):∀k,Im.U (EL l a k)
 |0=>fun x hx=>by cases hx
 |k+1=>fun x hx=>by
  rw[EL]at hx
  rcases BJ.1 hx with hx|hx
  ·exact aed h a k x hx
  ·rw[Bf.1 hx];exact avb h _
section
variable{P:Program}{n:Sz}{f:Nat→Value}{W:World}{dst:Option Tmp}{ty:TypeId}{pos:String}{af:Array Edge}{g:Option (Nat×Bool)}{x y:Operand}{k:IntKind}{a b c:Int}{t t2:TypeId}
theorem aaP(hx:ev n f x= .int k a)(hy:ev n f y= .int k b)(hr:k.wrap (((a%2^k.bits).toNat&&&(b%2^k.bits).toNat:Nat):Int)=c):(execOp (ev n f) ⟨dst,.binOp .and t x y t2,ty,pos,af,g⟩).run P W= .ok (.value (.int k c)) W:=by
 simp[execOp,hx,hy,eqGuard,binOp,Op.intBits,hr]
end
theorem aeb(i:Nat)(w:World)(hi:i=0∨i=1):
 Calls prog 202 [.int .i64 i].toArray w fun e w'=>e= .returned (.int .i64 ((64+64*i:Nat):Int))∧Only [] w w':=by
 have H:=Heap.nil w
 rcases hi with rfl|rfl
 ·refine BM 7 func202 O (Aw (oG ?_))
  refine AL (aaP (c:=0) O O Ak) (AL (Yf O O (wI Y)) (dI ?_))
  refine fH ?_
  exact⟨rfl,H.only⟩
 ·refine BM 7 func202 O (Aw (oG ?_))
  refine AL (aaP (c:=1) O O Ak) (AL (Yf O O (wI Y)) (dI ?_))
  refine fH ?_
  exact⟨rfl,H.only⟩
theorem apX(g:Geo)(d:Nv.D)(i:Nat)(w:World)(hE:DW (Dz g d) w)(hi:i=0∨i=1):
 Calls prog 136 [ptr g.p,.int .i64 i].toArray w fun e w'=>e= .returned (.agg ((EL d.cache (64+64*i) 16).map (Value.int .u64)).toArray)∧Only [] w w':=by
 have HR:=Heap.start hE
 have H:=Heap.nil w
 have hS:=fun w=>aeb i w hi
 have hb:64+64*i≤128:=Y
 generalize 64+64*i=a at*
 refine BM 20 func136 O (Aw (Ea H O ahq fun p4 _ H=>Au (Aw (Ea H O ahq fun p5 _ H=>Au (fJ ?_)))))
 refine Au (E8 (Ec (fun z f W=>∃k:Nat,k≤16∧z=16-k∧f 0=ptr g.p∧f 1= .int .i64 i∧f 4=ptr p4∧f 5=ptr p5∧f 7= .int .i64 k∧Heap w [] [blk p5 ((EL d.cache a k++List.replicate (16-k) 0).map (Value.int .u64)) 217,blk p4 ((List.replicate 16 0).map (Value.int .u64)) 217] W) 16 ⟨0,Y,rfl,rfl,rfl,rfl,rfl,rfl,H⟩ ?_))
 clear H
 rintro z f W ⟨k,hk,rfl,f0,f1,f4,f5,f7,H⟩
 obtain⟨f,rfl⟩:=Lr f0 f1 f4 f5 f7
 clear f0 f1 f4 f5 f7
 by_cases hlt:k<16
 ·obtain⟨c8,hv8⟩:∃c0,((EL d.cache a k++List.replicate (16-k) 0).map (Value.int .u64))[k]? =some c0:=⟨_,Ar (by rw[Ci,Cm,Ny,CV];omega)⟩
  refine lW ?_
  refine AQ O (Au (DR (Az O (BF O (Az O (BI H O (hS _) (afd O) fun W1 H=>nI ?_))))))
  refine BI H O (ZQ g d ((a:Int)+(k:Int)) _ (HR.same H.only).ents) (RZ O) fun W1 H=>AL (OY (i:=k) O O Y Y underlying217 GV) (Ic (u:= .int _ _) H 0 O O O O hv8 O GV ?_)
  clear H;refine ayJ fun _ H=>?_
  refine vG ?_
  rw[←Gy,akN d.cache a k hlt]at H
  refine⟨_,_,?_,rfl,k+1,Y,rfl,rfl,rfl,rfl,rfl,rfl,H⟩
  omega
 ·obtain rfl:k=16:=Y
  rw[GX,NI,Du]at H
  have ayo:=Ny d.cache a 16
  generalize EL d.cache a 16=q at*
  obtain⟨l0,l1,l2,l3,l4,l5,l6,l7,l8,l9,l10,Ht,l12,I7,I9,l15,rfl⟩:=aeo ayo
  refine uS ?_
  refine Dn H 0 O O O TP QJ (Eh H 1 O O O O O O O QJ ?_)
  clear H;refine ayJ fun _ H=>?_
  refine Au (BH (ZP O (IG H 1 O O O TP QJ) ?_))
  exact⟨rfl,H.only⟩
end
end
section
section
open Go.RowKit
section
variable{P:Program}{ops:Array Oper}{rest':List Oper}{n:Sz}{f:Nat→Value}{W w0:World}{F:List Nat}{L:List Fp}{Q':Exit→Act→World→Prop}{dst:Option Tmp}{ty:TypeId}{pos:String}{af:Array Edge}{g:Option (Nat×Bool)}{x y:Operand}{t:TypeId}
theorem afv{p i:Nat}{l:List Ob.H3}{rs:List Value}{q:Ob.H3}(H:Heap w0 F L W)(j:Nat)(hx:ev n f x= .pointer (some ⟨p,i*3,none⟩))(hj:L[j]? =some (hrow p l rs))(hq:l[i]? =some q)(hagg:∀W,(isAgg t).run P W= .ok true W)(hsz:∀W,(Go.sizeOf t).run P W= .ok 3 W):
 (execOp (ev n f) ⟨dst,.load t x,ty,pos,af,g⟩).run P W= .ok (.value (.agg (Ob.hcell q).toArray)) W:=
 JU H j hx hj (aft hq) rfl hagg hsz
theorem aoT{p i:Nat}{l:List Ob.H3}{rs:List Value}{q:Ob.H3}(H:Heap w0 F L W)(j:Nat)(hw:Region.wanted ⟨none,.store t x y,ty,pos,af,g⟩ (yl n f ops)=true)(hx:ev n f x= .pointer (some ⟨p,i*3,none⟩))(hy:ev n f y= .agg (Ob.hcell q).toArray)(hj:L[j]? =some (hrow p l rs))(hi:i<l.length)(hs:∀W,(Go.sizeOf t).run P W= .ok 3 W)
 (h:∀W',Heap w0 F (L.set j (hrow p (l.set i q) rs)) W'→SL P ops Q' rest' n f W'):SL P ops Q' (⟨none,.store t x y,ty,pos,af,g⟩::rest') n f W:=by
 refine Ov (vs:=Ob.hcell q) H j hw hx hy hj O O (Nat.ble_eq_true_of_le (by rw[Cm,V6];simp[Ob.hcell];omega)) hs fun W' H'=>h W' ?_
 have e:(Ob.hcell q).length=3:=rfl
 rw[e,aeN q hi]at H'
 exact H'
end
theorem Us(n b:Int)(w:World)(hn:0≤n∧n≤1000000)(hb:1≤b∧b<n):
 Calls prog 134 [.agg [.int .i64 n].toArray,.int .i64 b].toArray w fun e w'=>e= .returned (.int .i64 (256+b))∧Only [] w w':=by
 have H:=Heap.nil w
 refine BM 15 func134 O (Aw (DU H O O fun p2 _ H=>bM ?_))
 refine AX 7 O (Fz O) (AX 7 O (CB O Ou) (AX 7 O (Ef H 0 O O O GU) (AX 7 O (F7 O O Y) (fE ?_))))
 refine Aw (nI ?_)
 refine fH ?_
 exact⟨rfl,H.only⟩
theorem aqH(b x:Int)(w:World)(hb:0≤b∧b≤1000000)(hx:0≤x∧x≤18446744073709551615):
 Calls prog 132 [.int .i64 b,.int .u64 x].toArray w fun e w'=>e= .returned (.tuple [.agg [.int .i64 (Bh.aeG x (256+b)),.int .i64 (Bh.aeQ x (256+b)),.int .i64 (Bh.aeg x (256+b))].toArray,.int .i64 (Bh.MZ x (256+b))].toArray)∧Only [] w w':=by
 have e:Bh.atB b=256+b:=wI Y
 have h:=alC b x w Y Y hx.1 hx.2
 rw[e]at h
 exact h.mono fun e w' h=>⟨h.1,Only.of_below h.2 _⟩
theorem anp(b k c l:Int)(w:World)(hb:0≤b∧b≤1000000)(h:Bh.right k c l=true):
 Calls prog 162 [.int .i64 b,.agg [.int .i64 k,.int .i64 c,.int .i64 l].toArray].toArray w fun e w'=>e= .returned (.int .u64 (Bh.enc k c l (256+b)))∧Only [] w w':=by
 have e:Bh.atB b=256+b:=wI Y
 have hr:=Bh.Ti k c l h
 have h:=aaN b k c l w Y Y Y Y Y Y Y Y
 rw[e]at h
 exact h.mono fun e w' h=>⟨h.1,Only.of_below h.2 _⟩
theorem ahZ(k c l:Int)(w:World)(hr:Bh.right k c l=true):
 Calls prog 223 [.agg [.int .i64 k,.int .i64 c,.int .i64 l].toArray].toArray w fun e w'=>e= .returned (.bool true)∧Only [] w w':=by
 have hb:=Bh.Ti k c l hr
 have h:=Xy k c l w Y Y Y Y Y Y
 rw[hr]at h
 exact h.mono fun e w' h=>⟨h.1,Only.of_below h.2 _⟩
theorem afV{hs:List Ob.H3}{z:Ob.H3}{i n:Nat}{h:Ob.H3}(hl:hs.length=n)(hh:hs[i]? =some h):(hs.take i++List.replicate (n-i) z).set i h=hs.take (i+1)++List.replicate (n-(i+1)) z:=by
 have hi:=(BA.1 hh).1
 have h1:(hs.take i).length=i:=by rw[Dy];omega
 rw[Kq _ _ Y,h1,GX,show n-i=(n-(i+1))+1 by omega,Fa,AZ,←Jc hh,DI];rfl
structure aci (c:List Int) (hs:List Ob.H3):Prop where
 h0:hs[0]? =some (0,0,0)
 at_:∀(b:Nat) (h:Ob.H3),1≤b→hs[b]? =some h→Bh.right h.1 h.2.1 h.2.2=true∧Nv.get c (256+(b:Int))=Bh.enc h.1 h.2.1 h.2.2 (256+(b:Int))
theorem amW(g:Geo)(d:Nv.D)(n:Nat)(hs:List Ob.H3)(w:World)(hE:DW (Dz g d) w)(hw:Ob.SQ d.cache)(hk:aci d.cache hs)(hl:hs.length=n)(hn:1≤n∧n≤1000):
 Calls prog 173 [ptr g.p,.agg [.int .i64 n].toArray].toArray w fun e w'=>∃p c rs,e= .returned (.tuple #[.slice (some ⟨p,0,none⟩) n c,.int .i64 0,.int .i64 0])∧n≤c∧Heap w [] [hrow p hs rs] w':=by
 have HR:=Heap.start hE
 have H:=Heap.nil w
 have WM:=fun{W:World} (hO:Only [] w W)=>((Heap.start hE).same hO).ents
 refine BM 39 func173 O (Aw (DU H O O fun p3 _ H=>En O (AQ O (nG ?_))))
 refine BR O Ou (mQ ?_)
 refine Hf O O (ZB (c:=(n:Int)) O O zJ) (rF ?_)
 intro p _ H';clear H;have H:=H';clear H'
 refine En O (Au (tC ?_))
 obtain⟨rs,H⟩:=H.adW (by rw[CV];omega)
 rw[←aaF]at H
 replace H:Heap w [] [hrow p (List.replicate n (0,0,0)) rs,_] _:=H
 have e1:hs.take 1++List.replicate (n-1) (0,0,0)=List.replicate n (0,0,0):=by
  have h1:hs.take 1=[(0,0,0)]:=by rw[←Jc hk.h0];rfl
  rw[h1,show n=(n-1)+1 by omega,Fa];rfl
 rw[←e1]at H
 refine Ec (fun z f W=>∃(i:Nat),1≤i∧i≤n∧z=n-i∧f 0=ptr g.p∧f 3= .pointer (some ⟨p3,0,none⟩)∧f 7= .slice (some ⟨p,0,none⟩) n n∧f 8= .int .i64 i∧Heap w [] [hrow p (hs.take i++List.replicate (n-i) (0,0,0)) rs,blk p3 [.int .i64 n] 79] W) (n-1) ⟨1,Y,Y,rfl,rfl,rfl,rfl,rfl,H⟩ ?_
 clear H
 rintro z f W ⟨i,hi1,hi,rfl,f0,f3,f7,f8,H⟩
 obtain⟨f,rfl⟩:=Ih f0 f3 f7 f8
 clear f0 f3 f7 f8
 by_cases hin:i<n
 ·obtain⟨h,hh⟩:∃h,hs[i]? =some h:=⟨_,Ar Y⟩
  obtain⟨hr,he⟩:=hk.at_ i h hi1 hh
  have hgb:=Ob.QG hw (256+(i:Int))
  have hG:=fun{W:World} (hO:Only [] w W)=>ZQ g d (256+(i:Int)) W (WM hO)
  have hD:=fun(W:World)=>aqH i (Nv.get d.cache (256+(i:Int))) W Y hgb
  obtain⟨d1,d2,d3,d4⟩:=Bh.Qx h.1 h.2.1 h.2.2 (256+(i:Int)) hr
  rw[he,d1,d2,d3,d4]at hD
  rw[he]at hG
  have hlen:i<(hs.take i++List.replicate (n-i) (0,0,0)).length:=by rw[Cm,Dy,CV];omega
  refine wZ ?_
  refine eX ?_
  refine Aw (Az O (BF O (oN ?_)))
  refine BI H O (Us n i _ Y Y) (MB O) fun W1 H=>BI H O (hG H.only) (RZ O) fun W1 H=>BI H O (hD _) (aqz O) fun W1 H=>aO ?_
  refine Ea H O J9 fun p9 _ H=>tN ?_
  clear H;refine ayJ fun _ H=>?_
  refine rD ?_
  clear H;refine ayJ fun _ H=>?_
  refine AA (jy ?_)
  rw[afV hl hh]at H
  exact⟨_,_,Y,rfl,i+1,Y,Y,rfl,rfl,rfl,rfl,rfl,H.drop⟩
 ·obtain rfl:i=n:=Y
  rw[Ez Y,GX,NI,Du]at H
  refine wZ ?_
  refine kH ?_
  refine Aw (CY O (En O (AQ O (AQ O (Au (BH (auf (v:= .slice _ _ _) (v2:= .int _ _) (v3:= .int _ _) O O O O ?_)))))))
  exact⟨p,_,rs,rfl,Bg _,(H:Heap w [] ([_]++ [_]) _).drops⟩
end
end
section
section
open Go.RowKit
def hfl(hs:List Ob.H3):List Int:=hs.flatMap fun h=> [h.1,h.2.1,h.2.2]
theorem aek(hs:List Ob.H3):(hfl hs).map (Value.int .i64)=hcs hs:=by
 unfold hfl hcs
 rw[List.map_flatMap];rfl
theorem ai4(hs:List Ob.H3):(hfl hs).length=hs.length*3:=by
 have:=congrArg List.length (aek hs)
 rwa [Ci,V6]at this
theorem Heap.avR{w0 W:World}{F:List Nat}{L:List Fp}(H:Heap w0 F L W)(j:Nat){p:Nat}{hs:List Ob.H3}{rs:List Value}(hj:L[j]? =some (hrow p hs rs)):Gm (Value.int .i64) W [] (some ⟨p,0,none⟩) (hfl hs):=fun h0=>by
 have hb:W.heap[p]? =some (.cells (hcs hs++rs).toArray 209 (0,0)):=H.ok _ (A8 hj)
 refine⟨p,0,rfl,J,fun i x hi=>?_⟩
 rw[DT,Joins.cell_of_block hb,Fq,←aek]
 rw[Ej (by rw[Ci];exact(BA.1 hi).1),BG,hi];rfl
theorem Heap.adB{w0 W:World}{F:List Nat}{L:List Fp}(H:Heap w0 F L W)(j:Nat){A:Option Addr}{n c:Nat}{hs:List Ob.H3}{T:TypeId}(hj:L[j]? =some (Dw 3 (.slice A n c) n ((hfl hs).map (Value.int .i64)) T)):JQ W [] A hs:=fun h0=>by
 obtain⟨b,e,_,hr⟩:=H.LZ j hj (by rw[ai4];omega)
 refine⟨b,0,e,J,fun i h hi k u hk=>?_⟩
 have h1:=amN (rest:=[]) hi k u hk
 rw[Du,←aek,BG]at h1
 cases hx:(hfl hs)[i*3+k]? with
 |none=>rw[hx]at h1;cases h1
 |some x=>
  rw[hx]at h1
  injection h1 with h1
  have:=hr _ x hx
  rw[DT]at this⊢
  rw[←h1];exact this
def tbC(g:Geo)(n p c:Nat):List Value:=[ptr g.p,.int .i64 n,.slice (some ⟨p,0,none⟩) n c]
def tbE(g:Geo)(n pT p:Nat)(hs:List Ob.H3)(rs:List Value)(c:Nat):List Fp:=[blk pT (tbC g n p c) 306,hrow p hs rs]
theorem arb(g:Geo)(d:Nv.D)(n:Nat)(hs:List Ob.H3)(w:World)(hE:DW (Dz g d) w)(hw:Ob.SQ d.cache)(hk:aci d.cache hs)(hl:hs.length=n)(hn:1≤n∧n≤1000):
 Calls prog 177 [ptr g.p,.agg [.int .i64 n].toArray].toArray w fun e w'=>∃pT p c rs,e= .returned (.tuple #[ptr pT,.int .i64 0])∧n≤c∧Heap w [] (tbE g n pT p hs rs c) w':=by
 have H:=Heap.nil w
 have WM:=fun{W:World} (hO:Only [] w W)=>((Heap.start hE).same hO).ents
 refine BM 24 func177 O (Aw (DU H O O fun p3 _ H=>EX O (nV ?_)))
 refine qR ?_
 refine s_call O (amW g d n hs _ (WM H.only) hw hk hl hn) (aqa O) ?_
 rintro e W1 ⟨p,c,rs,rfl,hnc,H'⟩
 refine⟨_,rfl,?_⟩
 have H:=H.more H';clear H';simp only[Bv]at H
 refine kG ?_
 refine DK O O (En O (AQ O (nR ?_)))
 refine Aw (BF O (Dn H 1 O O O H6 G5 (CY O (AL (FP (afH _ _ _ _ _) O) (DU H O O fun p23 _ H=>qZ ?_)))))
 exact⟨p23,p,c,rs,rfl,hnc,(H:Heap w [] ([_,_]++ [_]) _).drops⟩
section
variable{g:Geo}{n pT p c:Nat}{hs:List Ob.H3}{rs:List Value}{w:World}
theorem aqV(hE:DW (tbE g n pT p hs rs c) w):
 Calls prog 185 [ptr pT].toArray w fun e w'=>e= .returned (.int .i64 n)∧Only [] w w':=by
 have HR:=Heap.start hE
 have H:=Heap.nil w
 refine BM 8 func185 O (Aw (AQ O (uX ?_)))
 refine wC ?_
 refine Di O underlying128 (fH ?_)
 exact⟨rfl,H.only⟩
theorem atX(hE:DW (tbE g n pT p hs rs c) w)(hl:hs.length=n)(hn:n≤1000)(b:Nat)(hb:1≤b)(h:Ob.H3)(hh:hs[b]? =some h):
 Calls prog 186 [ptr pT,.int .i64 b].toArray w fun e w'=>e= .returned (.agg (Ob.hcell h).toArray)∧Only [] w w':=by
 have HR:=Heap.start hE
 have H:=Heap.nil w
 have hbl:=(BA.1 hh).1
 refine BM 24 func186 O (Aw (Ea H O J9 fun p4 _ H=>Au (fJ ?_)))
 refine AL (CO O O Y) (BL O (AX 7 O (Fz O) (AX 7 O (MQ O) (AX 7 O (ES O) (AX 7 O (CB O Rx) (AX 7 O (Ef (HR.same H.only) 0 O O O Vo) (AX 7 O (Ey O underlying128) (AX 7 O (F7 O O Y) (fE ?_)))))))))
 refine eY ?_
 refine wC ?_
 refine Az O (AL (PS (i:=b) O O Y Y underlying128 EC) (AL (afv (q:=h) (HR.same H.only) 1 O O hh Iy EC) (tN ?_)))
 clear H;refine ayJ fun _ H=>?_
 refine Au (BH (ZP O (IG H 0 O O O Iy EC) ?_))
 exact⟨rfl,H.only⟩
theorem afN(hE:DW (tbE g n pT p hs rs c) w)(hl:hs.length=n)(hn:1≤n∧n≤1000):
 Calls prog 181 [ptr pT].toArray w fun e w'=>∃(A':Option Addr) (c':Nat) (l:IL),e= .returned (.slice A' l.length c')∧UW hs n l∧Heap w [] [Dw 2 (.slice A' l.length c') l.length ((flp l).map (Value.int .i64)) 309] w':=by
 have HR:=Heap.start hE
 have H:=Heap.nil w
 refine BM 8 func181 O (Aw (En O (uX ?_)))
 refine wC ?_
 refine s_call O (apD _ n c hs _ ((HR.same H.only).Yq 1 O) hl Y hn.1) (av2 O) ?_
 rintro e W1 ⟨A',c',l,rfl,hk,H'⟩
 refine⟨_,rfl,?_⟩
 have H:=H.more H';clear H';simp only[Bv]at H
 refine oZ ?_
 exact⟨A',c',l,rfl,hk,H⟩
theorem ap4(hE:DW (tbE g n pT p hs rs c) w)(hl:hs.length=n)(hn:1≤n∧n≤1000):
 Calls prog 179 [ptr pT].toArray w fun e w'=>∃A' c',e= .returned (.slice A' n c')∧JQ w' [] A' hs∧Only [] w w':=by
 have HR:=Heap.start hE
 have H:=Heap.nil w
 refine BM 9 func179 O (Aw (En O (Au (Aw (aiz 3 Y H O underlying128 J9 ?_)))))
 intro _ _ H';clear H;have H:=H';clear H'
 refine BF O (Dl O (wC ?_))
 refine anb (enc:=(Value.int .i64)) (size:=3) (xs:=[]) H 0 O O O O ((HR.avR 1 O)) ((by rw[ai4,hl])) (fun _=>rfl) Y Y underlying128 J9 O ?_
 clear H;intro A1 c1 _ H;simp only[Bv,Nat.reduceAdd]at H
 refine oZ ?_
 rw[DT]at H
 exact⟨A1,c1,by rw[DT],H.adB 0 rfl,H.only⟩
end
end
end
section
section
open Go.RowKit
theorem ase{f:Nat→Value}{k1 k2 k3 k4 k5 k6 k7 k8 k9:Nat}{v1 v2 v3 v4 v5 v6 v7 v8 v9:Value}(h1:f k1=v1)(h2:f k2=v2)(h3:f k3=v3)(h4:f k4=v4)(h5:f k5=v5)(h6:f k6=v6)(h7:f k7=v7)(h8:f k8=v8)(h9:f k9=v9):∃g,f=upd (upd (upd (upd (upd (upd (upd (upd (upd g k1 v1) k2 v2) k3 v3) k4 v4) k5 v5) k6 v6) k7 v7) k8 v8) k9 v9:=⟨f,by rw[upd_same h1,upd_same h2,upd_same h3,upd_same h4,upd_same h5,upd_same h6,upd_same h7,upd_same h8,upd_same h9]⟩
theorem Dv.stored{d:Nv.D}{m:Nat}(h:Dv d m){a:Nat}(ha:a<8*m){v:Int}(hv:0≤v∧v≤18446744073709551615):∃d',Nv.store d m a v=(d',0)∧Sto d d' m a v:=
 ⟨_,by rw[←(h.store ha hv).1],(h.store ha hv).2⟩
theorem Dv.persisted{d:Nv.D}{m:Nat}(h:Dv d m){a n:Nat}(ha:a+n≤8*m):∃d',Nv.persist d m a n=(d',0)∧Per d d' m a n:=
 ⟨_,by rw[←(h.persist ha).1],(h.persist ha).2⟩
theorem Ur{g:Geo}{d d':Nv.D}{m a:Nat}{v:Int}{w:World}(hE:DW (Dz g d) w)(hD:Dv d m)(hm:m≤100000)(he:Nv.store d m a v=(d',0)):
 Calls prog 161 [ptr g.p,.int .i64 a,.int .u64 v].toArray w fun e w'=>e= .returned (.int .i64 0)∧Heap w (ids (Dz g d)) (Dz g d') w':=by
 have h:=YO g d m a v w hE hD.I.ok hm
 rw[he]at h
 exact h
theorem Wl{g:Geo}{d d':Nv.D}{m a n:Nat}{w:World}(hE:DW (Dz g d) w)(hD:Dv d m)(hg:Wi g m)(hm:m≤100000)(he:Nv.persist d m a n=(d',0)):
 Calls prog 163 [ptr g.p,.int .i64 a,.int .i64 n].toArray w fun e w'=>e= .returned (.int .i64 0)∧Heap w (ids (Dz g d)) (Dz g d') w':=by
 have h:=VJ g d m a n w hE hD.I.ok hg hm
 rw[he]at h
 exact h
section
variable{g:Geo}{d:Nv.D}{m n pT p c:Nat}{hs:List Ob.H3}{rs:List Value}{w:World}
theorem ag5(hE:DW (grp (Dz g d)::tbE g n pT p hs rs c) w)(hD:Dv d m)(hg:Wi g m)(hm:m≤100000)(hnm:256+n≤8*m)(hl:hs.length=n)(hn:n≤1000)(b:Nat)(hb:1≤b∧b<n)(h:Ob.H3)(hr:Bh.right h.1 h.2.1 h.2.2=true)
 (LA:Option Addr) (lc:Nat) (hS:JQ w (ids (grp (Dz g d)::tbE g n pT p hs rs c)) LA [h]):
 Calls prog 263 [ptr pT,.int .i64 b,.slice LA 1 lc].toArray w fun e w'=>∃d1 d2,Sto d d1 m (256+b) (Bh.enc h.1 h.2.1 h.2.2 (256+(b:Int)))∧Per d1 d2 m (256+b) 1∧e= .returned (.int .i64 0)∧Heap w (ids (grp (Dz g d)::tbE g n pT p hs rs c)) (grp (Dz g d2)::tbE g n pT p (hs.set b h) rs c) w':=by
 have H:=Heap.start hE
 have hrb:=Bh.Ti _ _ _ hr
 have heb:=Bh.aa' h.1 h.2.1 h.2.2 (256+(b:Int))
 obtain⟨d1,e1,h1⟩:=hD.stored (a:=256+b) Y heb
 obtain⟨d2,e2,h2⟩:=h1.D.persisted (a:=256+b) (n:=1) Y
 obtain⟨q,o,rfl,hqF,awu⟩:=hS J
 have hrd:=awu 0 h rfl
 rw[show o+0*3=o by omega]at hrd
 clear hS awu
 have hbl:b<hs.length:=Y
 unfold tbE tbC at H hqF⊢
 generalize ids _=I at*
 refine BM 99 func263 O (Aw (bM ?_))
 refine AX 14 O (Fz O) (AX 14 O (MQ O) (AX 14 O (ES O) (AX 14 O (CB O Rx) (AX 14 O (Ef H 1 O O O Vo) (AX 14 O (Ey O underlying128) (AX 14 O (ER O O Y) (Dp O O (BL O (AX 23 O (UN O) (AX 23 O (Ey O underlying128) (AX 23 O (MQ O) (AX 23 O (ES O) (AX 23 O (CB O Rx) ?_)))))))))))))
 refine AX 23 O (Ef H 1 O O O Vo) (AX 23 O (Ey O underlying128) (AX 23 O (Fz O) (AX 23 O (FH O O (wI Y)) (AX 23 O (ER O O Y) (fE ?_)))))
 refine AP (Aw (oI ?_))
 refine tV ?_
 refine Ec (fun z f W=>∃(i:Nat),i≤1∧z=1-i∧f 0=ptr pT∧f 1= .int .i64 b∧f 2= .slice (some ⟨q,o,none⟩) 1 lc∧f 35= .slice (some ⟨q,o,none⟩) 1 lc∧f 36= .int .i64 1∧f 37= .int .i64 i∧Heap w I [grp (Dz g d),blk pT [ptr g.p,.int .i64 n,.slice (some ⟨p,0,none⟩) n c] 306,hrow p hs rs] W) 1 ⟨0,Y,rfl,rfl,rfl,rfl,rfl,rfl,rfl,H⟩ ?_
 clear H
 rintro z f W ⟨i,hi,rfl,f0,f1,f2,f35,f36,f37,H⟩
 obtain⟨f,rfl⟩:=PX f0 f1 f2 f35 f36 f37
 clear f0 f1 f2 f35 f36 f37
 by_cases h0:i=0
 ·subst h0
  refine ak ?_
  refine nC ?_
  refine Ea H O J9 fun p8 _ H=>Ov H 0 O O O O O O O EC ?_
  clear H;refine ayJ fun _ H=>?_
  refine Au (Aw (Dn H 0 O O O Iy EC (BI H O (ahZ _ _ _ _ hr) (aqC O) fun W1 H=>AL (EM O) (Au (nM ?_)))))
  exact⟨_,_,Y,rfl,1,Y,rfl,rfl,rfl,rfl,rfl,rfl,rfl,H.drop⟩
 ·obtain rfl:i=1:=Y
  refine je ?_
  refine AP (Aw (oI ?_))
  refine mD ?_
  refine AP (Aw (oI ?_))
  refine tV ?_
  have Yd:=fun(W:World)=>Us n b W Y Y
  have Yo:=fun(W:World)=>anp b h.1 h.2.1 h.2.2 W Y hr
  have axo:(256:Int)+(b:Int)=((256+b:Nat):Int):=Y
  rw[axo]at Yd
  have hSt:=fun{W:World} hE=>Ur (g:=g) (w:=W) hE hD hm e1
  have hPe:=fun{W:World} hE=>Wl (g:=g) (w:=W) hE h1.D hg hm e2
  refine Ec (fun z f W=>∃(i:Nat),i≤1∧z=1-i∧f 0=ptr pT∧f 1= .int .i64 b∧f 2= .slice (some ⟨q,o,none⟩) 1 lc∧f 48= .slice (some ⟨q,o,none⟩) 1 lc∧f 49= .int .i64 1∧f 50= .int .i64 i∧Heap w I [grp (Dz g (if i=0 then d else d1)),blk pT [ptr g.p,.int .i64 n,.slice (some ⟨p,0,none⟩) n c] 306,hrow p (if i=0 then hs else hs.set b h) rs] W) 1 ⟨0,Y,rfl,rfl,rfl,rfl,rfl,rfl,rfl,H⟩ ?_
  clear H
  rintro z f W ⟨i,hi,rfl,f0,f1,f2,f48,f49,f50,H⟩
  obtain⟨f,rfl⟩:=PX f0 f1 f2 f48 f49 f50
  clear f0 f1 f2 f48 f49 f50
  by_cases h0:i=0
  ·subst h0
   rw[if_pos rfl,if_pos rfl]at H
   refine lW ?_
   refine nC ?_
   refine Ea H O J9 fun p10 _ H=>AQ O (Ov H 0 O O O O O O O EC ?_)
   clear H;refine ayJ fun _ H=>?_
   refine Au (AP (AP ?_))
   refine Jj (fun f W=>f 0=ptr pT∧f 1= .int .i64 b∧f 2= .slice (some ⟨q,o,none⟩) 1 lc∧f 9= .int .i64 0∧f 10=ptr p10∧f 11= .int .i64 0∧f 48= .slice (some ⟨q,o,none⟩) 1 lc∧f 49= .int .i64 1∧f 50= .int .i64 0∧Heap w I [blk p10 [.int .i64 h.1,.int .i64 h.2.1,.int .i64 h.2.2] 209,grp (Dz g d1),blk pT [ptr g.p,.int .i64 n,.slice (some ⟨p,0,none⟩) n c] 306,hrow p hs rs] W) ?_ ?_
   ·refine Gu mixed ?_;replace H:=H.drew
    refine bI ?_
    refine Dj 2 O O O (fun _ hS=>CB O aiQ) trivial (Dj 4 O O O (fun _ hS=>BP (v:= .pointer _) O) trivial (Dj 5 O O O (fun _ hS=>ES O) trivial (Dj 6 O O O (fun _ hS=>CB O aiJ) trivial (Dj 8 O O O (fun _ hS=>BP (v:= .int _ _) O) trivial (Dj 9 O O O (fun _ hS=>BP (v:= .int _ _) O) trivial (Dj 10 O O O (fun _ hS=>Dk O O (wI Y)) trivial (Dj 12 O O O (fun _ hS=>BP (v:= .int _ _) O) trivial (Dj 13 O O O (fun _ hS=>BP (v:= .int _ _) O) trivial (Dj 14 O O O (fun _ hS=>Dk O O (wI Y)) trivial ?_)))))))))
    refine TM 3 7 15 Ak ?_ ?_ ?_
    ·refine oD ?_
     refine D6 7 15 ?_ ?_
     ·refine BO O (nZ ?_)
      refine aj ?_
      refine D6 11 15 ?_ ?_
      ·refine BO O (BI H O (Yd _) (MB O) fun W1 H=>aj ?_)
       refine Bd 15 O (mX ?_)
       refine Bd 16 O (BI H O (Yo _) (OJ O) fun W1 H=>oM ?_)
       rintro e W1 ⟨rfl,H'⟩
       refine⟨_,rfl,?_⟩
       have H:=H.DN 1 rfl H';clear H';simp only[Bv]at H
       refine bP ?_
       exact⟨rfl,rfl,rfl,rfl,rfl,rfl,rfl,rfl,rfl,H⟩
      ·refine BO O (mX ?_)
       refine Bd 11 O (BI H O (Yd _) (MB O) fun W1 H=>aj ?_)
       refine Bd 16 O (BI H O (Yo _) (OJ O) fun W1 H=>oM ?_)
       rintro e W1 ⟨rfl,H'⟩
       refine⟨_,rfl,?_⟩
       have H:=H.DN 1 rfl H';clear H';simp only[Bv]at H
       refine bP ?_
       exact⟨rfl,rfl,rfl,rfl,rfl,rfl,rfl,rfl,rfl,H⟩
     ·refine BO O (mX ?_)
      refine Bd 7 O (nZ ?_)
      refine aj ?_
      refine Bd 11 O (BI H O (Yd _) (MB O) fun W1 H=>aj ?_)
      refine Bd 16 O (BI H O (Yo _) (OJ O) fun W1 H=>oM ?_)
      rintro e W1 ⟨rfl,H'⟩
      refine⟨_,rfl,?_⟩
      have H:=H.DN 1 rfl H';clear H';simp only[Bv]at H
      refine bP ?_
      exact⟨rfl,rfl,rfl,rfl,rfl,rfl,rfl,rfl,rfl,H⟩
    ·refine BO O (nZ ?_)
     refine aj ?_
     refine TM 3 11 15 Ak ?_ ?_ ?_
     ·refine oD ?_
      refine D6 11 15 ?_ ?_
      ·refine BO O (BI H O (Yd _) (MB O) fun W1 H=>aj ?_)
       refine Bd 15 O (mX ?_)
       refine Bd 16 O (BI H O (Yo _) (OJ O) fun W1 H=>oM ?_)
       rintro e W1 ⟨rfl,H'⟩
       refine⟨_,rfl,?_⟩
       have H:=H.DN 1 rfl H';clear H';simp only[Bv]at H
       refine bP ?_
       exact⟨rfl,rfl,rfl,rfl,rfl,rfl,rfl,rfl,rfl,H⟩
      ·refine BO O (mX ?_)
       refine Bd 11 O (BI H O (Yd _) (MB O) fun W1 H=>aj ?_)
       refine Bd 16 O (BI H O (Yo _) (OJ O) fun W1 H=>oM ?_)
       rintro e W1 ⟨rfl,H'⟩
       refine⟨_,rfl,?_⟩
       have H:=H.DN 1 rfl H';clear H';simp only[Bv]at H
       refine bP ?_
       exact⟨rfl,rfl,rfl,rfl,rfl,rfl,rfl,rfl,rfl,H⟩
     ·refine BO O (BI H O (Yd _) (MB O) fun W1 H=>aj ?_)
      refine D6 3 15 ?_ ?_
      ·refine oD ?_
       refine Bd 15 O (mX ?_)
       refine Bd 16 O (BI H O (Yo _) (OJ O) fun W1 H=>oM ?_)
       rintro e W1 ⟨rfl,H'⟩
       refine⟨_,rfl,?_⟩
       have H:=H.DN 1 rfl H';clear H';simp only[Bv]at H
       refine bP ?_
       exact⟨rfl,rfl,rfl,rfl,rfl,rfl,rfl,rfl,rfl,H⟩
      ·refine BO O (mX ?_)
       refine D6 3 16 ?_ ?_
       ·refine oD ?_
        refine Bd 16 O (BI H O (Yo _) (OJ O) fun W1 H=>oM ?_)
        rintro e W1 ⟨rfl,H'⟩
        refine⟨_,rfl,?_⟩
        have H:=H.DN 1 rfl H';clear H';simp only[Bv]at H
        refine bP ?_
        exact⟨rfl,rfl,rfl,rfl,rfl,rfl,rfl,rfl,rfl,H⟩
       ·refine BO O (BI H O (Yo _) (OJ O) fun W1 H=>qx ?_)
        refine BD H 2 O O O Kt (oM ?_)
        rintro e W1 ⟨rfl,H'⟩
        refine⟨_,rfl,?_⟩
        have H:=H.DN 1 rfl H';clear H';simp only[Bv]at H
        refine bP ?_
        exact⟨rfl,rfl,rfl,rfl,rfl,rfl,rfl,rfl,rfl,H⟩
     ·refine BO O (mX ?_)
      refine D6 3 11 ?_ ?_
      ·refine oD ?_
       refine Bd 11 O (BI H O (Yd _) (MB O) fun W1 H=>aj ?_)
       refine Bd 16 O (BI H O (Yo _) (OJ O) fun W1 H=>oM ?_)
       rintro e W1 ⟨rfl,H'⟩
       refine⟨_,rfl,?_⟩
       have H:=H.DN 1 rfl H';clear H';simp only[Bv]at H
       refine bP ?_
       exact⟨rfl,rfl,rfl,rfl,rfl,rfl,rfl,rfl,rfl,H⟩
      ·refine BO O (BI H O (Yd _) (MB O) fun W1 H=>aj ?_)
       refine D6 3 16 ?_ ?_
       ·refine oD ?_
        refine Bd 16 O (BI H O (Yo _) (OJ O) fun W1 H=>oM ?_)
        rintro e W1 ⟨rfl,H'⟩
        refine⟨_,rfl,?_⟩
        have H:=H.DN 1 rfl H';clear H';simp only[Bv]at H
        refine bP ?_
        exact⟨rfl,rfl,rfl,rfl,rfl,rfl,rfl,rfl,rfl,H⟩
       ·refine BO O (BI H O (Yo _) (OJ O) fun W1 H=>qx ?_)
        refine BD H 2 O O O Kt (oM ?_)
        rintro e W1 ⟨rfl,H'⟩
        refine⟨_,rfl,?_⟩
        have H:=H.DN 1 rfl H';clear H';simp only[Bv]at H
        refine bP ?_
        exact⟨rfl,rfl,rfl,rfl,rfl,rfl,rfl,rfl,rfl,H⟩
    ·refine BO O (mX ?_)
     refine D6 3 7 ?_ ?_
     ·refine oD ?_
      refine Bd 7 O (nZ ?_)
      refine aj ?_
      refine Bd 11 O (BI H O (Yd _) (MB O) fun W1 H=>aj ?_)
      refine Bd 16 O (BI H O (Yo _) (OJ O) fun W1 H=>oM ?_)
      rintro e W1 ⟨rfl,H'⟩
      refine⟨_,rfl,?_⟩
      have H:=H.DN 1 rfl H';clear H';simp only[Bv]at H
      refine bP ?_
      exact⟨rfl,rfl,rfl,rfl,rfl,rfl,rfl,rfl,rfl,H⟩
     ·refine BO O (nZ ?_)
      refine aj ?_
      refine D6 3 11 ?_ ?_
      ·refine oD ?_
       refine Bd 11 O (BI H O (Yd _) (MB O) fun W1 H=>aj ?_)
       refine Bd 16 O (BI H O (Yo _) (OJ O) fun W1 H=>oM ?_)
       rintro e W1 ⟨rfl,H'⟩
       refine⟨_,rfl,?_⟩
       have H:=H.DN 1 rfl H';clear H';simp only[Bv]at H
       refine bP ?_
       exact⟨rfl,rfl,rfl,rfl,rfl,rfl,rfl,rfl,rfl,H⟩
      ·refine BO O (BI H O (Yd _) (MB O) fun W1 H=>aj ?_)
       refine D6 3 16 ?_ ?_
       ·refine oD ?_
        refine Bd 16 O (BI H O (Yo _) (OJ O) fun W1 H=>oM ?_)
        rintro e W1 ⟨rfl,H'⟩
        refine⟨_,rfl,?_⟩
        have H:=H.DN 1 rfl H';clear H';simp only[Bv]at H
        refine bP ?_
        exact⟨rfl,rfl,rfl,rfl,rfl,rfl,rfl,rfl,rfl,H⟩
       ·refine BO O (BI H O (Yo _) (OJ O) fun W1 H=>qx ?_)
        refine BD H 2 O O O Kt (oM ?_)
        rintro e W1 ⟨rfl,H'⟩
        refine⟨_,rfl,?_⟩
        have H:=H.DN 1 rfl H';clear H';simp only[Bv]at H
        refine bP ?_
        exact⟨rfl,rfl,rfl,rfl,rfl,rfl,rfl,rfl,rfl,H⟩
   clear H
   rintro f W ⟨f0,f1,f2,f9,f10,f11,f48,f49,f50,H⟩
   obtain⟨f,rfl⟩:=ase f0 f1 f2 f9 f10 f11 f48 f49 f50
   clear f0 f1 f2 f9 f10 f11 f48 f49 f50
   refine AO (aT ?_)
   refine AO ?_
   refine Jj (fun f W=>f 0=ptr pT∧f 1= .int .i64 b∧f 2= .slice (some ⟨q,o,none⟩) 1 lc∧f 48= .slice (some ⟨q,o,none⟩) 1 lc∧f 49= .int .i64 1∧f 50= .int .i64 0∧Heap w I [grp (Dz g d1),blk pT [ptr g.p,.int .i64 n,.slice (some ⟨p,0,none⟩) n c] 306,hrow p (hs.set b h) rs] W) ?_ ?_
   ·refine Gu mixed ?_;replace H:=H.drew
    refine bI ?_
    refine Dj 2 O O O (fun _ hS=>CB O Rx) trivial (qE ?_)
    refine Dj 5 O O O (fun _ hS=>BP (v:= .int _ _) O) trivial (Dj 6 O O O (fun _ hS=>Dk O O (wI Y)) trivial ?_)
    refine D6 3 7 ?_ ?_
    ·refine BO O (BD H 2 O O O Vo (o7 ?_))
     refine mX ?_
     refine uP ?_
     clear H;refine ayJ fun _ H=>?_
     refine kV ?_
     exact⟨rfl,rfl,rfl,rfl,rfl,rfl,H.drop⟩
    ·refine BO O (mX ?_)
     refine Bd 3 O (BD H 2 O O O Vo (aj ?_))
     refine uP ?_
     clear H;refine ayJ fun _ H=>?_
     refine kV ?_
     exact⟨rfl,rfl,rfl,rfl,rfl,rfl,H.drop⟩
   clear H
   rintro f W ⟨f0,f1,f2,f48,f49,f50,H⟩
   obtain⟨f,rfl⟩:=PX f0 f1 f2 f48 f49 f50
   clear f0 f1 f2 f48 f49 f50
   refine aC ?_
   exact⟨_,_,Y,rfl,1,Y,rfl,rfl,rfl,rfl,rfl,rfl,rfl,by rw[if_neg Y,if_neg Y];exact H⟩
  ·obtain rfl:i=1:=Y
   rw[if_neg Y,if_neg Y]at H
   refine je ?_
   refine AP ?_
   refine Gu mixed ?_;replace H:=H.drew
   refine bJ ?_
   refine Eo 2 O O O (fun _ hS=>CB O aiQ) trivial (Eo 4 O O O (fun _ hS=>BP (v:= .pointer _) O) trivial (Eo 5 O O O (fun _ hS=>ES O) trivial (Eo 6 O O O (fun _ hS=>CB O aiJ) trivial (Eo 8 O O O (fun _ hS=>BP (v:= .int _ _) O) trivial (Eo 10 O O O (fun _ hS=>BP (v:= .slice _ _ _) O) trivial (Eo 11 O O O (fun _ hS=>Ey O underlying128) trivial ?_))))))
   refine D6 3 7 ?_ ?_
   ·refine BO O (BD H 1 O O O Kt (o7 ?_))
    refine AL (JU H 1 (vs:=[.int .i64 n]) O O O O H6 G5) (aj ?_)
    refine Bd 9 O (BI H O (Yd _) (MB O) fun W1 H=>wJ ?_)
    rintro e W1 ⟨rfl,H'⟩
    refine⟨_,rfl,?_⟩
    have H:=H.DN 0 rfl H';clear H';simp only[Bv]at H
    refine aj ?_
    refine oh ?_
    exact⟨d1,d2,h1,h2,rfl,H⟩
   ·refine BO O (AL (JU H 1 (vs:=[.int .i64 n]) O O O O H6 G5) (aj ?_))
    refine D6 3 9 ?_ ?_
    ·refine BO O (BD H 1 O O O Kt (aj ?_))
     refine Bd 9 O (BI H O (Yd _) (MB O) fun W1 H=>wJ ?_)
     rintro e W1 ⟨rfl,H'⟩
     refine⟨_,rfl,?_⟩
     have H:=H.DN 0 rfl H';clear H';simp only[Bv]at H
     refine aj ?_
     refine oh ?_
     exact⟨d1,d2,h1,h2,rfl,H⟩
    ·refine BO O (BI H O (Yd _) (MB O) fun W1 H=>qx ?_)
     refine BD H 1 O O O Kt (wJ ?_)
     rintro e W1 ⟨rfl,H'⟩
     refine⟨_,rfl,?_⟩
     have H:=H.DN 0 rfl H';clear H';simp only[Bv]at H
     refine aj ?_
     refine oh ?_
     exact⟨d1,d2,h1,h2,rfl,H⟩
end
end
end
section
section
open Go.RowKit
def Zd(hs:List Ob.H3):Prop:=∀h∈hs,h=(0,0,0)∨∃k:Int,0≤k∧k<32∧h=(1,k,0)
theorem Zd.set{hs:List Ob.H3}(h:Zd hs)(b:Nat){k:Int}(hk:0≤k∧k<32):Zd (hs.set b (1,k,0)):=fun x hx=>by
 rcases E5 hx with h1|rfl
 ·exact h x h1
 ·exact .inr ⟨k,hk.1,hk.2,rfl⟩
theorem Zd.kind{hs:List Ob.H3}(h:Zd hs){i:Nat}{x:Ob.H3}(hx:hs[i]? =some x):x.1=0∨x.1=1:=by
 rcases h x (A8 hx)with rfl|⟨k,_,_,rfl⟩
 ·exact .inl rfl
 ·exact .inr rfl
theorem aoH(A:Option Addr)(n c:Nat)(hs:List Ob.H3)(w:World)(hS:JQ w [] A hs)(hB:Zd hs)(hl:hs.length=n)(hn:1≤n∧n≤1000):
 Calls prog 178 [.slice A n c].toArray w fun e w'=>e= .returned (.tuple #[.int .i64 0,.bool true])∧Only [] w w':=by
 have H:=Heap.nil w
 refine BM 36 func178 O (Aw (AQ O (BN O (Au (tC ?_)))))
 refine Ec (fun z f W=>∃(i:Nat),1≤i∧i≤n∧z=n-i∧f 0= .slice A n c∧f 4= .int .i64 i∧Heap w [] [] W) (n-1) ⟨1,Y,Y,rfl,rfl,rfl,H⟩ ?_
 clear H
 rintro z f W ⟨i,hi1,hi,rfl,f0,f4,H⟩
 by_cases hin:i<n
 ·obtain⟨h,hh⟩:∃h,hs[i]? =some h:=⟨_,Ar Y⟩
  have hk:=hB.kind hh
  obtain⟨q,o,rfl,_,hrd⟩:=hS Y
  have c0:=hrd i h hh 0 _ rfl
  obtain⟨f,rfl⟩:=VT f0 f4
  clear f0 f4
  refine fJ ?_
  refine oI ?_
  refine eX ?_
  refine Aw (CY O (Az O (AL (JY (i:=i) O O Y Y underlying128 EC) (AL (JV O Oy) (AL (Hq H O c0 J GU) (Au (E8 (Aw (AL (Fb O O Y) (BN O (Au (DX O (Aw ?_)))))))))))))
  refine AL (Fb O O Y) (BN O (Au (DX O (Bj (Dh (jy ?_))))))
  exact⟨_,_,Y,rfl,i+1,Y,Y,rfl,rfl,rfl,H⟩
 ·obtain rfl:i=n:=Y
  obtain⟨f,rfl⟩:=VT f0 f4
  clear f0 f4
  refine fJ ?_
  refine oI ?_
  refine kH ?_
  refine Aw (AQ O (BN O (Au (BH (iL ?_)))))
  exact⟨rfl,H.only⟩
def mnC(pT pX n:Nat):List Value:=[ptr pT,ptr pX,.int .i64 n]
def mnE(g:Geo)(n pM pT p:Nat)(hs:List Ob.H3)(rs:List Value)(c pX bS bE:Nat)(S E:IL):List Fp:=
 [blk pM (mnC pT pX n) 265,blk pT (tbC g n p c) 306,hrow p hs rs,grp (SC pX bS bE S E n)]
theorem arR(g:Geo)(d:Nv.D)(n:Nat)(hs:List Ob.H3)(w:World)(hE:DW (Dz g d) w)(hw:Ob.SQ d.cache)(hk:aci d.cache hs)(hB:Zd hs)(hl:hs.length=n)(hn:1≤n∧n≤1000):
 Calls prog 116 [ptr g.p,.agg [.int .i64 n].toArray].toArray w fun e w'=>∃pM pT p c rs pX bS bE S E,e= .returned (.tuple #[ptr pM,.int .i64 0])∧n≤c∧Rn.Ok S E n (UR hs n)∧Heap w [] (mnE g n pM pT p hs rs c pX bS bE S E) w':=by
 have H:=Heap.nil w
 have WM:=fun{W:World} (hO:Only [] w W)=>((Heap.start hE).same hO).ents
 refine BM 44 func116 O (Aw (DU H O O fun p3 _ H=>EX O (nV ?_)))
 refine qR ?_
 refine s_call O (arb g d n hs _ (WM H.only) hw hk hl hn) (awi O) ?_
 rintro e W1 ⟨pT,p,c,rs,rfl,hnc,H'⟩
 refine⟨_,rfl,?_⟩
 have H:=H.more (A:=[grp _]) (Hw H');clear H';simp only[Bv]at H
 refine dU ?_
 refine nR ?_
 refine AP (Aw (BF O (s_call O (ap4 (H.Bl 0 O) hl hn) (aqE O) ?_)))
 rintro e W1 ⟨A',c',rfl,hSa,H'⟩
 refine⟨_,rfl,?_⟩
 have H:=H.same H';clear H'
 refine BI H O (aoH _ _ _ hs _ hSa hB hl hn) (av1 O) fun W1 H=>aX ?_
 refine Au (Aw (BL O (gK ?_)))
 refine AP ?_
 refine Jj (fun f W=>∃pX bS bE S E,f 3=ptr p3∧f 6=ptr pT∧f 7= .int .i64 0∧f 10=ptr pX∧Rn.Ok S E n (UR hs n)∧Heap w [] [grp (SC pX bS bE S E n),grp (tbE g n pT p hs rs c),blk p3 [.int .i64 n] 79] W) ?_ ?_
 ·refine Gu mixed ?_;replace H:=H.drew
  refine Dj 0 O O O (fun _ hS=>CB O Ou) trivial (Dj 2 O O O (fun _ hS=>BP (v:= .pointer _) O) trivial ?_)
  refine D6 1 3 ?_ ?_
  ·refine BO O (BD H 1 O O O GU (qx ?_))
   refine s_call O (afN (H.Bl 0 O) hl hn) (aqr O) ?_
   rintro e W1 ⟨A1,c1,l,rfl,hsp,H'⟩
   refine⟨_,rfl,?_⟩
   have H:=H.more H';clear H';simp only[Bv]at H
   refine kL ?_
   refine s_call O (anN n _ _ hs l _ (H.acI 0 O) hsp Y) (aqQ O) ?_
   rintro e W1 ⟨pX,bS,bE,S,E,rfl,hO,H'⟩
   refine⟨_,rfl,?_⟩
   have H:=H.drop.more (A:=[grp _]) (Hw H');clear H';simp only[Bv]at H
   refine aj ?_
   refine iY ?_
   exact⟨pX,bS,bE,S,E,rfl,rfl,rfl,rfl,hO,H⟩
  ·refine BO O (s_call O (afN (H.Bl 0 O) hl hn) (aqr O) ?_)
   rintro e W1 ⟨A1,c1,l,rfl,hsp,H'⟩
   refine⟨_,rfl,?_⟩
   have H:=H.more H';clear H';simp only[Bv]at H
   refine tH ?_
   refine BD H 2 O O O GU (kL ?_)
   refine s_call O (anN n _ _ hs l _ (H.acI 0 O) hsp Y) (aqQ O) ?_
   rintro e W1 ⟨pX,bS,bE,S,E,rfl,hO,H'⟩
   refine⟨_,rfl,?_⟩
   have H:=H.drop.more (A:=[grp _]) (Hw H');clear H';simp only[Bv]at H
   refine aj ?_
   refine iY ?_
   exact⟨pX,bS,bE,S,E,rfl,rfl,rfl,rfl,hO,H⟩
 clear H
 rintro f W ⟨pX,bS,bE,S,E,f3,f6,f7,f10,hO,H⟩
 obtain⟨f,rfl⟩:=Ih f3 f6 f7 f10
 clear f3 f6 f7 f10
 refine AO (gy ?_)
 refine Aw (BF O (BF O (Dn H 2 O O O H6 G5 (AL (FP (ae7 _ _ _) O) (DU H O O fun p43 _ H=>qZ ?_)))))
 have H1:Heap w [] [_,_,_] _:=Heap.Ew H [2,0,1] rfl rfl
 replace H1:=Heap.abN H1
 exact⟨_,pT,p,c,rs,pX,bS,bE,S,E,rfl,hnc,hO,H1.order [2,0,1,3] rfl rfl⟩
section
variable{g:Geo}{n pM pT p c pX bS bE:Nat}{hs:List Ob.H3}{rs:List Value}{S E:IL}{w:World}
theorem arP(hE:DW (mnE g n pM pT p hs rs c pX bS bE S E) w):
 Calls prog 182 [ptr pM].toArray w fun e w'=>e= .returned (.agg [.int .i64 n].toArray)∧Only [] w w':=by
 have HR:=Heap.start hE
 have H:=Heap.nil w
 refine BM 7 func182 O (Aw (Ea H O acy fun p2 _ H=>uX ?_))
 refine BR O apt (AL (JU (HR.same H.only) 0 (vs:=[.int .i64 n]) O O O O H6 G5) (Eh H 0 O O O O O O O G5 ?_))
 clear H;refine ayJ fun _ H=>?_
 refine Au (BH (ZP O (IG H 0 O O O H6 G5) ?_))
 exact⟨rfl,H.only⟩
end
end
end
section
section
open Go.RowKit
theorem aoU{hs:List Ob.H3}{b:Nat}{k:Int}(n:Nat)(hb:b<hs.length)(x:Int):UR (hs.set b (1,k,0)) n x↔UR hs n x∧¬((b:Int)≤x∧x<b+1):=by
 unfold UR
 constructor
 ·rintro⟨h1,h2,h,h3,h4⟩
  by_cases e:x.toNat=b
  ·rw[e,JI hb]at h3
   injection h3 with h3
   subst h3
   cases h4
  ·rw[Gw (fun h=>e h.symm)]at h3
   exact⟨⟨h1,h2,h,h3,h4⟩,Y⟩
 ·rintro⟨⟨h1,h2,h,h3,h4⟩,h5⟩
  exact⟨h1,h2,h,by rw[Gw Y];exact h3,h4⟩
theorem aou{p bS bE:Nat}{S E:IL}{lim:Int}{fb:Int→Prop}{w:World}(hE:DW (SC p bS bE S E lim) w)(hO:Rn.Ok S E lim fb)(hl:lim≤10000):
 Calls prog 261 [YS p,.int .i64 1].toArray w fun e w'=>∃(s q:Int) (S' E':IL),e= .returned (.tuple #[.int .i64 s,.int .i64 q])∧
  (q=4∧(∀b,¬fb b)∧S'=S∧E'=E∨q=0∧1≤s∧s+1≤lim∧fb s∧Rn.Ok S' E' lim (fun b=>fb b∧¬(s≤b∧b<s+1)))∧Heap w (ids (SC p bS bE S E lim)) (SC p bS bE S' E' lim) w':=by
 refine(arQ hE hO hl 1 Y).mono ?_
 rintro e w' (⟨h1,rfl,h2⟩|⟨s,S',E',h1,h2,h3,h4,rfl,H⟩)
 ·refine⟨0,4,S,E,rfl,.inl ⟨rfl,fun b hb=>?_,rfl,rfl⟩,(Heap.start hE).same h2⟩
  obtain⟨s,k,h3,h4⟩:=(hO.cov b).1 hb
  have h5:=h1 s k h3
  have h6:=hO.bd s k h3
  omega
 ·exact⟨s,0,S',E',rfl,.inr ⟨rfl,h1,h2,h3 s (Vs _) Y,h4⟩,H⟩
theorem Heap.XB{w0 W:World}{F:List Nat}{A L:List Fp}{R:Option Addr}{n c:Nat}{hs:List Ob.H3}{T:TypeId}(H:Heap w0 F (A++Dw 3 (.slice R n c) n ((hfl hs).map (Value.int .i64)) T::L) W):JQ W (ids A) R hs:=fun h0=>by
 have hj:(A++Dw 3 (.slice R n c) n ((hfl hs).map (Value.int .i64)) T::L)[A.length]? =some (Dw 3 (.slice R n c) n ((hfl hs).map (Value.int .i64)) T):=by rw[D8 (Bg _),GX];rfl
 obtain⟨b,o,e,_,hr⟩:=H.adB A.length hj h0
 refine⟨b,o,e,fun hm=>?_,hr⟩
 have hnd:=H.nd
 rw[F8]at hnd
 refine(CS.1 hnd).2.2 b hm b ?_ O
 rw[EW]
 refine BQ _ ?_
 show b∈(Value.slice R n c).ownBlock.toList
 rw[e];simp[Value.ownBlock]
section
variable{g:Geo}{d:Nv.D}{m n pM pT p c pX bS bE:Nat}{hs:List Ob.H3}{rs:List Value}{S E:IL}{w:World}
theorem ao1(hE:DW (grp (Dz g d)::mnE g n pM pT p hs rs c pX bS bE S E) w)(hD:Dv d m)(hg:Wi g m)(hm:m≤100000)(hnm:256+n≤8*m)(hl:hs.length=n)(hn:n≤1000)(hO:Rn.Ok S E n (UR hs n))(k:Int)(hk:0≤k∧k<32):
 Calls prog 218 [ptr pM,.int .i64 k].toArray w fun e w'=>
  ((∀b,¬UR hs n b)∧e= .returned (.tuple #[.int .i64 0,.int .i64 4])∧Heap w (ids (grp (Dz g d)::mnE g n pM pT p hs rs c pX bS bE S E)) (grp (Dz g d)::mnE g n pM pT p hs rs c pX bS bE S E) w')∨
  ∃(b:Nat) (d1 d2:Nv.D) (S' E':IL),1≤b∧b<n∧UR hs n b∧Sto d d1 m (256+b) (Bh.enc 1 k 0 (256+(b:Int)))∧Per d1 d2 m (256+b) 1∧Rn.Ok S' E' n (UR (hs.set b (1,k,0)) n)∧e= .returned (.tuple #[.int .i64 b,.int .i64 0])∧
   Heap w (ids (grp (Dz g d)::mnE g n pM pT p hs rs c pX bS bE S E)) (grp (Dz g d2)::mnE g n pM pT p (hs.set b (1,k,0)) rs c pX bS bE S' E') w':=by
 have H:=Heap.start hE
 have hr:Bh.right 1 k 0=true:=Bh.EO _ _ _ (.inr (.inl ⟨rfl,hk.1,hk.2,rfl⟩))
 unfold mnE at H⊢
 generalize ids _=I at*
 refine BM 38 func218 O (Aw (AQ O (oG ?_)))
 refine AL (FP (ads _ _) O) (Ea H O J9 fun p6 _ H=>Ov H 0 O O O O O O O EC ?_)
 clear H;refine ayJ fun _ H=>?_
 refine Au (AP (Aw (Dn H 0 O O O Iy EC (BI H O (ahZ _ _ _ _ hr) (aqC O) fun W1 H=>gK ?_))))
 refine eY ?_
 refine BR O anZ (BD H 2 O O O atP (s_call O (aou (H.Bl 5 O) hO Y) (auQ O) ?_))
 rintro e W1 ⟨s,q,S',E',rfl,hq,H'⟩
 refine⟨_,rfl,?_⟩
 have H9:=H.DN 5 rfl H';clear H H';have H:=H9;clear H9;simp only[Bv]at H
 refine eH ?_
 refine Au (AP (AP ?_))
 rcases hq with⟨rfl,hno,hSS,hEE⟩|⟨rfl,hs1,hs2,hfr,hO2⟩
 ·refine DR (Az O (AL (Hl O O Y) (ql ?_)))
  refine Az O (uD ?_)
  have H1:=H.drop
  rw[hSS,hEE]at H1
  exact .inl ⟨hno,rfl,H1⟩
 ·obtain⟨b,rfl⟩:=Bo (show 0≤s by omega)
  have hbn:b<n:=Y
  have hO3:Rn.Ok S' E' n (UR (hs.set b (1,k,0)) n):=hO2.congr fun x=>(aoU n Y x).symm
  refine DR (Az O (AL (Dc O O Y) (dX ?_)))
  refine AP (AP ?_)
  refine Jj (fun f W=>∃d1 d2,Sto d d1 m (256+b) (Bh.enc 1 k 0 (256+(b:Int)))∧Per d1 d2 m (256+b) 1∧f 7= .int .i64 b∧f 9= .int .i64 0∧Heap w I [grp (Dz g d2),blk pM (mnC pT pX n) 265,blk pT (tbC g n p c) 306,hrow p (hs.set b (1,k,0)) rs,grp (SC pX bS bE S' E' n)] W) ?_ ?_
  ·refine Gu mixed ?_;replace H:=H.drew
   refine bI ?_
   refine Dj 2 O O O (fun _ hS=>CB O RY) trivial (qE ?_)
   refine D6 3 5 ?_ ?_
   ·refine BO O (BD H 2 O O O WX (iE ?_))
    refine mX ?_
    refine Bd 6 O (nP ?_)
    intro q6 _ H';clear H;have H:=H';clear H'
    refine o7 ?_
    refine s_call O ((by have H2:Heap w I ([_,_,_]++ [_,_,_,_]) _:=H.order [2,4,5,0,1,3,6] O O;exact ag5 (hs:=hs) (n:=n) H2.part hD hg hm hnm hl hn b ⟨Y,hbn⟩ (1,k,0) hr _ _ (Heap.XB (A:=[_,_,_]) (hs:=[(1,k,0)]) H2))) (akX O) ?_
    rintro e W1 ⟨d1,d2,h1,h2,rfl,H'⟩
    refine⟨_,rfl,?_⟩
    have H2:Heap w I ([_,_,_]++ [_,_,_,_]) _:=H.order [2,4,5,0,1,3,6] rfl rfl;have H3:=H2.step H' (fun i hi=>hi);clear H H' H2;simp only[tbE,EJ,EH]at H3;have H:Heap w I [_,_,_,_,_] _:=Heap.Ew H3 [0,5,1,2,6] rfl rfl;clear H3
    refine aj ?_
    refine lY ?_
    exact⟨d1,d2,h1,h2,rfl,rfl,H⟩
   ·refine BO O (mX ?_)
    refine D6 3 6 ?_ ?_
    ·refine BO O (BD H 2 O O O WX (nH ?_))
     refine nP ?_
     intro q6 _ H';clear H;have H:=H';clear H'
     refine o7 ?_
     refine s_call O ((by have H2:Heap w I ([_,_,_]++ [_,_,_,_]) _:=H.order [2,4,5,0,1,3,6] O O;exact ag5 (hs:=hs) (n:=n) H2.part hD hg hm hnm hl hn b ⟨Y,hbn⟩ (1,k,0) hr _ _ (Heap.XB (A:=[_,_,_]) (hs:=[(1,k,0)]) H2))) (akX O) ?_
     rintro e W1 ⟨d1,d2,h1,h2,rfl,H'⟩
     refine⟨_,rfl,?_⟩
     have H2:Heap w I ([_,_,_]++ [_,_,_,_]) _:=H.order [2,4,5,0,1,3,6] rfl rfl;have H3:=H2.step H' (fun i hi=>hi);clear H H' H2;simp only[tbE,EJ,EH]at H3;have H:Heap w I [_,_,_,_,_] _:=Heap.Ew H3 [0,5,1,2,6] rfl rfl;clear H3
     refine aj ?_
     refine lY ?_
     exact⟨d1,d2,h1,h2,rfl,rfl,H⟩
    ·refine BO O (nP ?_)
     intro q6 _ H';clear H;have H:=H';clear H'
     refine qx ?_
     refine BD H 3 O O O WX (o7 ?_)
     refine s_call O ((by have H2:Heap w I ([_,_,_]++ [_,_,_,_]) _:=H.order [2,4,5,0,1,3,6] O O;exact ag5 (hs:=hs) (n:=n) H2.part hD hg hm hnm hl hn b ⟨Y,hbn⟩ (1,k,0) hr _ _ (Heap.XB (A:=[_,_,_]) (hs:=[(1,k,0)]) H2))) (akX O) ?_
     rintro e W1 ⟨d1,d2,h1,h2,rfl,H'⟩
     refine⟨_,rfl,?_⟩
     have H2:Heap w I ([_,_,_]++ [_,_,_,_]) _:=H.order [2,4,5,0,1,3,6] rfl rfl;have H3:=H2.step H' (fun i hi=>hi);clear H H' H2;simp only[tbE,EJ,EH]at H3;have H:Heap w I [_,_,_,_,_] _:=Heap.Ew H3 [0,5,1,2,6] rfl rfl;clear H3
     refine aj ?_
     refine lY ?_
     exact⟨d1,d2,h1,h2,rfl,rfl,H⟩
  clear H
  rintro f W ⟨d1,d2,h1,h2,f7,f9,H⟩
  obtain⟨f,rfl⟩:=VT f7 f9
  clear f7 f9
  refine AO (aT ?_)
  refine AO (Aw (Az O (pI ?_)))
  exact .inr ⟨b,d1,d2,S',E',Y,hbn,hfr,h1,h2,hO3,rfl,H⟩
end
end
end
section
section
open Go.RowKit
structure JZ where
 pA:Nat
 pM:Nat
 pT:Nat
 ph:Nat
 hc:Nat
 pX:Nat
 bS:Nat
 bE:Nat
 pU:Nat
 bU:Nat
 cU:Nat
 pF:Nat
 bF:Nat
 rs:List Value
 S:IL
 E:IL
 hs:List Ob.H3
 AU:Option Addr
 U:List Bool
 F:Nat→FQ
 FL:FrM
 n:Nat
def JZ.C(g:Geo)(s:JZ):List Value:=[ptr s.pM,ptr g.p,.int .i64 s.n,pt s.pU,abE s.pF]
def JZ.L(g:Geo)(s:JZ):List Fp:=
 [blk s.pA (s.C g) 238,blk s.pM (mnC s.pT s.pX s.n) 265,blk s.pT (tbC g s.n s.ph s.hc) 306,hrow s.ph s.hs s.rs,grp (SC s.pX s.bS s.bE s.S s.E s.n),grp (JJ s.pU s.bU s.AU s.cU s.U),grp (frE s.pF s.bF s.F s.F s.FL)]
def Kv(b k i:Int):Int:=b*512+i*Cl.words k
def Gz(U:List Bool)(a:Int):Bool:=decide (0≤a)&&Bm.at_ U a.toNat
theorem XL{b k i j:Int}(hk:0≤k∧k<32)(h:i<j):Kv b k i<Kv b k j:=by
 have hw:=Cl.Hg k hk.1 hk.2
 have:=Int.mul_lt_mul_of_pos_right h (show 0<Cl.words k by omega)
 unfold Kv;omega
theorem akU(n k b i:Int)(w:World)(hn:0≤n∧n≤1000)(hk:0≤k∧k<32)(hb:1≤b∧b<n)(hi:0≤i∧i<Cl.cells k):
 Calls prog 244 [.agg [.int .i64 n].toArray,.int .i64 k,.agg [.int .i64 b,.int .i64 i].toArray].toArray w fun e w'=>e= .returned (.int .i64 (Kv b k i))∧Only [] w w':=by
 have e:=Ce.Uo n k b i hk.1 hk.2 hb.1 hb.2 hi.1 hi.2
 have hc:=Cl.Yy k
 have h:=ZA n k b i w Y Y Y Y Y Y Y Y
 rw[e]at h
 exact h.mono fun e w' h=>⟨h.1,Only.of_below h.2 _⟩
theorem al5(k:Int)(w:World)(hk:0≤k∧k<32):Calls prog 131 [.int .i64 k].toArray w fun e w'=>e= .returned (.int .i64 (Cl.cells k))∧Only [] w w':=
 (YB k w Y Y).mono fun e w' h=>⟨h.1,Only.of_below h.2 _⟩
theorem aii(g:Geo)(s:JZ)(w:World)(hE:DW (s.L g) w)(hU:Ib s.bU s.AU s.cU s.U)(hn:s.n≤256)(N:Nat)(hN:N≤90000)(hF:Ru (xsOf s.F))(hFr:Qq s.F s.FL N)(b k:Nat)(hb:1≤b∧b<s.n)(hk:k<32)(hnew:∀i:Int,0≤i→i<Cl.cells k→Kv b k i∉cls (xsOf s.F) k):
 Calls prog 187 [ptr s.pA,.int .i64 b,.int .i64 k].toArray w fun e w'=>∃F' MR,e= .returned (.tuple #[])∧Ru (xsOf F')∧Qq F' MR (N+256)∧
  (∀a,a∈cls (xsOf F') k↔a∈cls (xsOf s.F) k∨∃i:Int,0≤i∧i<Cl.cells k∧a=Kv b k i∧Gz s.U a=false)∧(∀j,j≠k→cls (xsOf F') j=cls (xsOf s.F) j)∧Heap w (ids (s.L g)) (JZ.L g {s with F:=F',FL:=MR}) w':=by
 have H:=Heap.start hE
 have hcb:=Cl.Yy k
 obtain⟨m,hm⟩:∃m:Nat,Cl.cells k=(m:Int):=⟨(Cl.cells k).toNat,Y⟩
 generalize ids (s.L g)=I at*
 unfold JZ.L JZ.C at H
 refine BM 38 func187 O (Aw (Az O (BI H O (al5 k _ Y) (aqt O) fun W1 H=>nK ?_)))
 refine AQ O (Au (E8 ?_))
 refine Ec (fun z f W=>∃(q:Nat) (F:Nat→FQ) (FL:FrM),q≤m∧z=q∧Ru (xsOf F)∧Qq F FL (N+(m-q))∧(∀a,a∈cls (xsOf F) k↔a∈cls (xsOf s.F) k∨∃i:Int,q≤i∧i<Cl.cells k∧a=Kv b k i∧Gz s.U a=false)∧(∀j,j≠k→cls (xsOf F) j=cls (xsOf s.F) j)∧f 0=ptr s.pA∧f 1= .int .i64 b∧f 2= .int .i64 k∧f 6= .int .i64 ((q:Int)-1)∧Heap w I [blk s.pA [ptr s.pM,ptr g.p,.int .i64 s.n,pt s.pU,abE s.pF] 238,blk s.pM (mnC s.pT s.pX s.n) 265,blk s.pT (tbC g s.n s.ph s.hc) 306,hrow s.ph s.hs s.rs,grp (SC s.pX s.bS s.bE s.S s.E s.n),grp (JJ s.pU s.bU s.AU s.cU s.U),grp (frE s.pF s.bF F F FL)] W) m ⟨m,s.F,s.FL,Y,rfl,hF,by rw[GX];exact hFr,fun a=>⟨.inl,fun h=>h.elim id fun⟨i,h1,h2,_⟩=>Y⟩,fun _ _=>rfl,rfl,rfl,rfl,by rw[←hm];rfl,H⟩ ?_
 clear H
 rintro z f W ⟨q,F,FL,hq,hz,hF1,ahr,hmem,hoff,f0,f1,f2,f6,H⟩
 replace hz:=hz.symm
 subst hz
 obtain⟨f,rfl⟩:=Ih f0 f1 f2 f6
 clear f0 f1 f2 f6
 cases q with
 |zero=>
  refine fJ ?_
  refine AL (F7 O O Y) (xQ ?_)
  refine fin0 O ?_
  exact⟨F,FL,rfl,hF1,⟨ahr.keys,ahr.got,fun i hi=>F9 (ahr.len i hi) Y⟩,hmem,hoff,H⟩
 |succ q=>
  have hqm:(q:Int)<Cl.cells k:=Y
  have e6:((q+1:Nat):Int)-1=(q:Int):=Y
  rw[e6]
  have hA:=fun(W:World)=>akU s.n k b q W Y Y Y ⟨Y,hqm⟩
  have hw2:=Cl.Tc k
  have hmb:=Ce.agq k q Y Y Y hqm
  have hca:Kv b k q=b*512+q*Cl.words k:=rfl
  have hH:=fun{W:World} hE=>amJ (p:=s.pU) hU W hE (Kv b k q)
  have hnot:Kv b k q∉cls (xsOf F) k:=fun hx=>by
   rcases(hmem _).1 hx with h1|⟨i,h1,h2,h3,_⟩
   ·exact hnew q Y hqm h1
   ·have:=XL (b:=(b:Int)) (k:=(k:Int)) Y (show(q:Int)<i by omega);omega
  cases hu:Gz s.U (Kv b k q)with
  |true=>
   unfold Gz at hu
   rw[hu]at hH
   refine fJ ?_
   refine AL (G8 O O Y) (Au (pV ?_))
   refine BI H O (hA _) (aqp O) fun W1 H=>AQ O (uX ?_)
   refine BR O XI (BD H 0 O O O PN (Az O (BI H O (hH (H.Bl 5 O)) (Zg O) fun W1 H=>AL (EM O) (Au (oU ?_)))))
   refine DR (Az O (nK ?_))
   refine AQ O (AA (CU ?_))
   refine⟨_,_,?_,rfl,q,F,FL,Y,rfl,hF1,⟨ahr.keys,ahr.got,fun i hi=>F9 (ahr.len i hi) Y⟩,fun a=>?_,hoff,rfl,rfl,rfl,rfl,H⟩
   ·omega
   ·rw[hmem]
    constructor
    ·rintro(h1|⟨i,h1,h2⟩)
     ·exact .inl h1
     ·exact .inr ⟨i,Y,h2⟩
    ·rintro(h1|⟨i,h1,h2,h3,h4⟩)
     ·exact .inl h1
     ·by_cases e:i=q
      ·subst e
       rw[h3]at h4
       unfold Gz at h4
       rw[hu]at h4;cases h4
      ·exact .inr ⟨i,Y,h2,h3,h4⟩
  |false=>
   have hu2:=hu
   unfold Gz at hu2
   rw[hu2]at hH
   obtain⟨S',hp1,hp2,hp3,hp4⟩:=ao4 hF1 hk hnot
   have hP:=fun{W:World} hE=>av5 (p:=s.pF) (b:=s.bF) (w:=W) hE ahr Y k (Kv b k q)
   rw[hp1]at hP
   refine fJ ?_
   refine AL (G8 O O Y) (Au (pV ?_))
   refine BI H O (hA _) (aqp O) fun W1 H=>AQ O (uX ?_)
   refine BR O XI (BD H 0 O O O PN (Az O (BI H O (hH (H.Bl 5 O)) (Zg O) fun W1 H=>AL (Jm O) (Au (EI O (sN ?_))))))
   refine BR O Z4 (BD H 0 O O O aiL (Az O (Az O (s_call O (hP (H.Bl 6 O)) (atv O) ?_))))
   rintro e W1 ⟨rfl,F2,FL2,H',hF2,hx2⟩
   refine⟨_,rfl,?_⟩
   have H:=H.DN 6 rfl H';clear H';simp only[Bv]at H
   refine AA (Dh (AO (DR (Az O (nK ?_)))))
   refine AQ O (AA (CU ?_))
   refine⟨_,_,?_,rfl,q,F2,FL2,Y,rfl,by rw[hx2];exact hp2,by rw[show N+(m-q)=N+(m-(q+1))+1 by omega];exact hF2,fun a=>?_,fun j hj=>by rw[hx2,hp4 j hj];exact hoff j hj,rfl,rfl,rfl,rfl,H⟩
   ·omega
   ·rw[hx2,hp3.mem_iff,BJ,hmem]
    constructor
    ·rintro((h1|⟨i,h1,h2⟩)|h1)
     ·exact .inl h1
     ·exact .inr ⟨i,Y,h2⟩
     ·rw[Bf.1 h1]
      exact .inr ⟨q,Y,hqm,rfl,hu⟩
    ·rintro(h1|⟨i,h1,h2,h3,h4⟩)
     ·exact .inl (.inl h1)
     ·by_cases e:i=q
      ·subst e
       exact .inr (by rw[h3];simp)
      ·exact .inl (.inr ⟨i,Y,h2,h3,h4⟩)
end
end
section
section
open Go.RowKit
structure Wri (d d':Nv.D) (m a n:Nat) (f:Nat→Int):Prop where
 D:Dv d' m
 i:∀x:Nat,x<n→Nv.get d'.cache ((a+x:Nat):Int)=f x
 o:∀x:Int,¬((a:Int)≤x∧x<a+n)→Nv.get d'.cache x=Nv.get d.cache x
 k:∀j,(∀x,a≤x→x<a+n→x/8≠j)→Un d' j=Un d j
theorem Sto.get{d d':Nv.D}{m a:Nat}{v:Int}(h:Sto d d' m a v)(ha:a<8*m)(hl:d.cache.length=8*m)(x:Int):Nv.get d'.cache x=if x=a then v else Nv.get d.cache x:=by
 rw[h.c];exact an1 Y v x
theorem awr(p q a:Int)(w:World)(hp:0≤p∧p≤63)(hq:0≤q∧q≤16384)(ha:0≤a∧a≤1000000000):
 Calls prog 220 [.agg [.int .i64 p,.int .i64 q].toArray,.int .i64 a].toArray w fun e w'=>e= .returned (.int .u64 (Oh.enc p q a))∧Only [] w w':=
 (abP p q a w Y Y Y Y Y Y).mono fun e w' h=>⟨h.1,Only.of_below h.2 _⟩
theorem arE(g:Geo)(d:Nv.D)(m a:Nat)(p q:Int)(n:Nat)(w:World)(hE:DW (Dz g d) w)(hD:Dv d m)(hm:m≤100000)(hp:0≤p∧p≤63)(hq:0≤q∧q≤16384)(hn:(n:Int)=1+p+q)(ha:a+n≤8*m):
 Calls prog 158 [ptr g.p,.int .i64 a,.agg [.int .i64 p,.int .i64 q].toArray].toArray w fun e w'=>∃d',Wri d d' m a n (fun x=>if x=0 then Oh.enc p q a else 0)∧e= .returned (.int .i64 0)∧Heap w (ids (Dz g d)) (Dz g d') w':=by
 have H:=GZ hE
 have hsz:Cl.size p q=n:=by rw[(Cl.LY p q hp.1 hp.2 hq.1 hq.2).1];omega
 have hcl:=hD.len
 have hS:=fun(W:World)=>aex p q W Y Y
 rw[hsz]at hS
 have Yo:=fun(W:World)=>awr p q a W hp hq Y
 generalize hI:ids (Dz g d)=I at*
 refine BM 51 func158 O (Aw (DU H O O fun p5 _ H=>nG ?_))
 refine tZ ?_
 refine BI H O (hS _) (Zn O) fun W1 H=>kU ?_
 refine AL (Fb O O Y) (BN O (Au (DX O (Aw (Az O (AL (CO O O Y) (BL O (AX 18 O (Fz O) (AX 18 O (MQ O) (s_call (EP 18 Ak O) (Ze g d _ (H.Bl 1 O)) (PV O) ?_))))))))))
 rintro e W1 ⟨rfl,H'⟩
 refine⟨_,rfl,?_⟩
 have H:=H.same H';clear H'
 refine AX 18 O (F7 O O Y) (Dp O O (BL O (AX 24 O (Fz O) (AX 24 O (MQ O) (s_call (EP 24 Ak O) (Ze g d _ (H.Bl 1 O)) (PV O) ?_)))))
 rintro e W1 ⟨rfl,H'⟩
 refine⟨_,rfl,?_⟩
 have H:=H.same H';clear H'
 refine AX 24 O (Fz O) (AX 24 O (FH O O (wI Y)) (AX 24 O (ER O O Y) (Dp O O (uQ ?_))))
 refine tC ?_
 refine Ec (fun z f W=>∃(i:Nat) (d1:Nv.D),1≤i∧i≤n∧z=n-i∧Dv d1 m∧(∀x:Nat,1≤x→x<i→Nv.get d1.cache ((a+x:Nat):Int)=0)∧(∀x:Int,¬((a:Int)+1≤x∧x<a+i)→Nv.get d1.cache x=Nv.get d.cache x)∧(∀j,(∀x,a≤x→x<a+n→x/8≠j)→Un d1 j=Un d j)∧f 0=ptr g.p∧f 1= .int .i64 a∧f 5=ptr p5∧f 7= .int .i64 n∧f 8= .int .i64 i∧Heap w I [blk p5 [.int .i64 p,.int .i64 q] 205,grp (Dz g d1)] W) (n-1) ⟨1,d,Y,Y,rfl,hD,fun x h1 h2=>Y,fun x h=>rfl,fun j h=>rfl,rfl,rfl,rfl,rfl,rfl,H⟩ ?_
 clear H
 rintro z f W ⟨i,d1,hi1,hi,rfl,hD1,hz,ho,hk,f0,f1,f5,f7,f8,H⟩
 obtain⟨f,rfl⟩:=Lr f0 f1 f5 f7 f8
 clear f0 f1 f5 f7 f8
 have hl1:=hD1.len
 by_cases hin:i<n
 ·obtain⟨d2,e2,h2⟩:=hD1.stored (a:=a+i) (v:=0) Y Y
  have hg2:=h2.get Y hl1
  have eai:((a+i:Nat):Int)=(a:Int)+i:=Y
  have hSt:=fun{W:World} hE=>Ur (g:=g) (w:=W) hE hD1 hm e2
  rw[eai]at hSt
  refine fJ ?_
  refine Az O (eX ?_)
  refine jl ?_
  refine nI ?_
  refine s_call O (hSt (H.Bl 1 O)) (JM O) ?_
  rintro e W1 ⟨rfl,H'⟩
  refine⟨_,rfl,?_⟩
  have H:=H.DN 1 rfl H';clear H';simp only[Bv]at H
  refine mW ?_
  refine jy ?_
  refine⟨_,_,?_,rfl,i+1,d2,Y,Y,rfl,h2.D,fun x h3 h4=>?_,fun x h3=>?_,fun j h3=>?_,rfl,rfl,rfl,rfl,rfl,H⟩
  ·omega
  ·rw[hg2]
   by_cases e:x=i
   ·subst e;rw[if_pos rfl]
   ·rw[if_neg Y];exact hz x h3 Y
  ·rw[hg2,if_neg Y];exact ho x Y
  ·rw[h2.k j (fun e=>h3 (a+i) Y Y e.symm)];exact hk j h3
 ·obtain rfl:i=n:=Y
  obtain⟨d2,e2,h2⟩:=hD1.stored (a:=a) (v:=Oh.enc p q a) Y (Oh.aa' p q a)
  have hg2:=h2.get Y hl1
  have hSt:=fun{W:World} hE=>Ur (g:=g) (w:=W) hE hD1 hm e2
  refine fJ ?_
  refine Az O (kH ?_)
  refine jl ?_
  refine tZ ?_
  refine Az O (BI H O (Yo _) (aun O) fun W1 H=>s_call O (hSt (H.Bl 1 O)) (JM O) ?_)
  rintro e W1 ⟨rfl,H'⟩
  refine⟨_,rfl,?_⟩
  have H:=H.DN 1 rfl H';clear H';simp only[Bv]at H
  refine fH ?_
  refine⟨d2,⟨h2.D,fun x h3=>?_,fun x h3=>?_,fun j h3=>?_⟩,rfl,Iw H.drop⟩
  ·show _=if x=0 then _ else _
   rw[hg2]
   by_cases e:x=0
   ·subst e;rw[if_pos Y,if_pos rfl]
   ·rw[if_neg Y,if_neg e];exact hz x Y h3
  ·rw[hg2,if_neg Y];exact ho x Y
  ·rw[h2.k j (fun e=>h3 a Y Y e.symm)];exact hk j h3
end
end
section
section
open Go.RowKit
def Kw(hs:List Ob.H3)(n:Nat)(k:Nat)(a:Int):Prop:=∃(b:Nat) (i:Int),1≤b∧b<n∧hs[b]? =some (1,(k:Int),0)∧0≤i∧i<Cl.cells k∧a=Kv b k i
structure I8 (c:List Int) (s:JZ) (N:Nat) (X:Int→Prop):Prop where
 hl:s.hs.length=s.n
 n2:2≤s.n∧s.n≤256
 sm:Zd s.hs
 hd:aci c s.hs
 rn:Rn.Ok s.S s.E s.n (UR s.hs s.n)
 su:Ib s.bU s.AU s.cU s.U
 ul:s.U.length=512*s.n
 fs:Ru (xsOf s.F)
 fr:Qq s.F s.FL N
 cl:c.length=512*s.n
 us:∀a,Gz s.U a=true→Ob.pl s.n c s.hs a=true
 fm:∀k,k<32→∀a,a∈cls (xsOf s.F) k↔Kw s.hs s.n k a∧Gz s.U a=false∧¬X a
theorem VD{b k i:Int}(hk:0≤k∧k<32)(hi:0≤i∧i<Cl.cells k):b*512≤Kv b k i∧Kv b k i+Cl.words k≤b*512+512:=by
 have:=Ce.agq k i hk.1 hk.2 hi.1 hi.2
 unfold Kv;omega
theorem Hz{b k i:Int}(hk:0≤k∧k<32)(hi:0≤i∧i<Cl.cells k):Kv b k i/512=b:=by
 have:=VD (b:=b) hk hi
 have hw:=Cl.Hg k hk.1 hk.2
 omega
theorem Kw.bd{hs:List Ob.H3}{n k:Nat}{a:Int}(h:Kw hs n k a)(hk:k<32):512≤a∧a+Cl.words k≤512*n:=by
 obtain⟨b,i,h1,h2,_,h4,h5,rfl⟩:=h
 have:=VD (b:=(b:Int)) (k:=(k:Int)) Y ⟨h4,h5⟩
 omega
section
variable{g:Geo}{s:JZ}{w:World}
theorem ahx(hE:DW (s.L g) w)(hU:Ib s.bU s.AU s.cU s.U)(a:Int):
 Calls prog 152 [ptr s.pA,.int .i64 a].toArray w fun e w'=>e= .returned (.bool (Gz s.U a))∧Only [] w w':=by
 have HR:=Heap.start hE
 have H:=Heap.nil w
 have hH:=fun{W:World} hE=>amJ (p:=s.pU) hU W hE a
 unfold JZ.L JZ.C at HR
 generalize ids _=I at*
 refine BM 11 func152 O (qU ?_)
 refine eY ?_
 refine BR O XI (BD (HR.same H.only) 0 O O O PN (Az O (BI H O (hH ((HR.same H.only).Bl 5 O)) (Zg O) fun W1 H=>gZ ?_)))
 exact⟨rfl,H.only⟩
theorem X4(hE:DW (s.L g) w):
 Calls prog 118 [ptr s.pA].toArray w fun e w'=>e= .returned (ptr g.p)∧Only [] w w':=by
 have HR:=Heap.start hE
 have H:=Heap.nil w
 unfold JZ.L JZ.C at HR
 generalize ids _=I at*
 refine BM 7 func118 O (Aw (EX O (uX ?_)))
 refine BR O aen (BD (HR.same H.only) 0 O O O Kt (uq ?_))
 exact⟨rfl,H.only⟩
end
theorem I8.fresh{c:List Int}{s:JZ}{N:Nat}{X:Int→Prop}(h:I8 c s N X){b:Nat}(hb:UR s.hs s.n b)(k:Nat)(hk:k<32)(i:Int)(hi:0≤i∧i<Cl.cells k):Gz s.U (Kv b k i)=false:=by
 cases hu:Gz s.U (Kv b k i)with
 |false=>rfl
 |true=>
  have hp:=h.us _ hu
  obtain⟨h1,h2,h3⟩:=Ob.L8 hp
  obtain⟨b1,b2,x,b3,b4⟩:=hb
  rw[Bz]at b3
  have hblk:=Hz (b:=(b:Int)) (k:=(k:Int)) Y hi
  unfold Ob.pl at hp
  rw[hblk,Bz,b3]at hp
  simp only[FV]at hp
  have hpa:=hp.2.2
  unfold Ob.ahm at hpa
  split at hpa
  ·simp only[FV,decide_eq_true_eq]at hpa
   rw[hpa.2]at b4;cases b4
  ·simp only[FV]at hpa
   have hw:=hpa.1
   unfold Ob.whole at hw
   rw[hblk,Bz,b3]at hw
   simp only[FV,decide_eq_true_eq]at hw
   rw[b4]at hw
   exact absurd hw.1 Ae
end
end
section
section
theorem alb{hs:List Ob.H3}(h:Zd hs)(b:Nat):Ob.whole hs b=false:=by
 unfold Ob.whole
 cases hb:hs[b]? with
 |none=>rfl
 |some x=>
  have:=h.kind hb
  simp only
  rw[decide_eq_false Y];rfl
theorem abk{n:Nat}{c:List Int}{hs:List Ob.H3}(hB:Zd hs)(hl:hs.length=n)(a:Int):Ob.pl n c hs a=true↔Ob.hd c a=true∧Cl.ofB (Cl.size (Ob.hp c a) (Ob.hq c a))=true∧∃k:Nat,k<32∧Cl.WQ (Cl.size (Ob.hp c a) (Ob.hq c a))=k∧Kw hs n k a:=by
 generalize hz:Cl.size (Ob.hp c a) (Ob.hq c a)=z
 have hk:=Cl.QO z
 have hw:=Cl.Hg (Cl.WQ z) hk.1 hk.2
 constructor
 ·intro h
  obtain⟨h1,h2,h3⟩:=Ob.L8 h
  unfold Ob.pl at h
  simp only[FV]at h
  have h4:=h.2.2
  cases hb:hs[(a/512).toNat]? with
  |none=>rw[hb]at h4;cases h4
  |some x=>
   rw[hb]at h4
   simp only at h4
   unfold Ob.ahm at h4
   rw[hz]at h4
   by_cases ho:Cl.ofB z=true
   ·rw[if_pos ho]at h4
    simp only[FV,decide_eq_true_eq,beq_iff_eq]at h4
    obtain⟨h5,h6⟩:=h4
    refine⟨h3,ho,(Cl.WQ z).toNat,Y,Y,(a/512).toNat,a%512/Cl.words (Cl.WQ z),Y,Y,?_,?_,?_,?_⟩
    ·rw[hb,h6,JD hk.1]
    ·exact Qc Y Y
    ·rw[JD hk.1]
     by_cases h7:a%512/Cl.words (Cl.WQ z)<Cl.cells (Cl.WQ z)
     ·exact h7
     ·rw[Ce.MV _ _ _ _ (fun h8=>h7 h8.2.2.2.2.2)]at h5;omega
    ·by_cases h7:0≤Cl.WQ z∧Cl.WQ z<32∧1≤a/512∧a/512<(n:Int)∧0≤a%512/Cl.words (Cl.WQ z)∧a%512/Cl.words (Cl.WQ z)<Cl.cells (Cl.WQ z)
     ·rw[Ce.Uo _ _ _ _ h7.1 h7.2.1 h7.2.2.1 h7.2.2.2.1 h7.2.2.2.2.1 h7.2.2.2.2.2]at h5
      unfold Kv
      rw[JD hk.1,JD Y]
      exact h5.symm
     ·rw[Ce.MV _ _ _ _ h7]at h5;omega
   ·rw[if_neg ho,alb hB]at h4
    cases h4
 ·rintro⟨h1,h2,k,h3,h4,b,i,b1,b2,b3,i1,i2,e⟩
  have hbd:=VD (b:=(b:Int)) (k:=(k:Int)) (i:=i) Y ⟨i1,i2⟩
  have hw2:=Cl.Hg (k:Int) Y Y
  have hblk:a/512=b:=by rw[e];exact Hz Y ⟨i1,i2⟩
  have hmod:a%512=i*Cl.words k:=by
   have h8:Kv b k i=b*512+i*Cl.words k:=rfl
   omega
  have hdiv:a%512/Cl.words k=i:=by rw[hmod];exact Int.mul_ediv_cancel _ Y
  unfold Ob.pl
  rw[h1,decide_eq_true Y,hblk,Bz,b3]
  simp only[GL]
  unfold Ob.ahm
  rw[hz,if_pos h2,h4,hblk,hdiv,Ce.Uo _ _ _ _ Y Y Y Y i1 i2]
  have h8:(b:Int)*512+i*Cl.words k=a:=by rw[e];rfl
  rw[h8]
  simp
theorem XV{c c':List Int}{a:Int}(hl:c'.length=c.length)(hg:Nv.get c' a=Nv.get c a):Ob.hd c' a=Ob.hd c a∧Ob.hp c' a=Ob.hp c a∧Ob.hq c' a=Ob.hq c a:=by
 have e:Ob.hd c' a=Ob.hd c a:=by unfold Ob.hd;rw[hl,hg]
 exact⟨e,by unfold Ob.hp;rw[e,hg],by unfold Ob.hq;rw[e,hg]⟩
theorem XE{hs:List Ob.H3}{n b k j:Nat}(hj:j<32)(hb:UR hs n b)(hl:hs.length=n)(a:Int)(ha:a/512≠b):Kw (hs.set b (1,(k:Int),0)) n j a↔Kw hs n j a:=by
 constructor
 ·rintro⟨b2,i,h1,h2,h3,h4,h5,rfl⟩
  rw[Hz Y ⟨h4,h5⟩]at ha
  rw[Gw Y]at h3
  exact⟨b2,i,h1,h2,h3,h4,h5,rfl⟩
 ·rintro⟨b2,i,h1,h2,h3,h4,h5,rfl⟩
  rw[Hz Y ⟨h4,h5⟩]at ha
  exact⟨b2,i,h1,h2,by rw[Gw Y];exact h3,h4,h5,rfl⟩
theorem abz{hs:List Ob.H3}{n b j:Nat}(hj:j<32)(hb:UR hs n b){a:Int}(h:Kw hs n j a):a/512≠b:=by
 obtain⟨b2,i,h1,h2,h3,h4,h5,rfl⟩:=h
 rw[Hz Y ⟨h4,h5⟩]
 intro e
 obtain⟨_,_,x,b3,b4⟩:=hb
 rw[Bz,show b=b2 by omega,h3]at b3
 injection b3 with b3
 subst b3
 cases b4
theorem I8.small{c c':List Int}{s:JZ}{N:Nat}(h:I8 c s N fun _=>False){b k:Nat}(hb:UR s.hs s.n b)(hk:k<32){S' E':IL}(hr:Rn.Ok S' E' s.n (UR (s.hs.set b (1,(k:Int),0)) s.n))
 (hl:c'.length=c.length) (hc:∀x,Nv.get c' x=if x=256+(b:Int)then Bh.enc 1 k 0 (256+(b:Int))else Nv.get c x):
 I8 c' {s with hs:=s.hs.set b (1,(k:Int),0),S:=S',E:=E'} N fun a=>a/512=b:=by
 have hb1:=hb.1
 have hb2:=hb.2.1
 have hbl:b<s.hs.length:=by have:=h.hl;omega
 have hn:=h.n2
 refine⟨by simp[h.hl],h.n2,h.sm.set b Y,⟨?_,fun b2 x h1 h2=>?_⟩,hr,h.su,h.ul,h.fs,h.fr,by rw[hl];exact h.cl,fun a ha=>?_,fun j hj a=>?_⟩
 ·show(s.hs.set b (1,(k:Int),0))[0]? =_
  rw[Gw Y];exact h.hd.h0
 ·replace h2:(s.hs.set b (1,(k:Int),0))[b2]? =some x:=h2
  rw[hc]
  by_cases e:b2=b
  ·subst e
   rw[JI hbl]at h2
   injection h2 with h2
   subst h2
   exact⟨Bh.EO _ _ _ (.inr (.inl ⟨rfl,by simp only;omega,by simp only;omega,rfl⟩)),by rw[if_pos rfl]⟩
  ·rw[Gw (fun e2=>e e2.symm)]at h2
   rw[if_neg Y]
   exact h.hd.at_ b2 x h1 h2
 ·have hp:=h.us a ha
  show Ob.pl s.n c' (s.hs.set b (1,(k:Int),0)) a=true
  rw[abk (h.sm.set b Y) (by simp[h.hl])]
  obtain⟨p1,p2,j,p3,p4,p5⟩:=(abk h.sm h.hl a).1 hp
  have hbd:=p5.bd p3
  have hg:Nv.get c' a=Nv.get c a:=by rw[hc,if_neg Y]
  obtain⟨g1,g2,g3⟩:=XV hl hg
  rw[g1,g2,g3]
  exact⟨p1,p2,j,p3,p4,(XE p3 hb h.hl a (abz p3 hb p5)).2 p5⟩
 ·show a∈cls (xsOf s.F) j↔Kw (s.hs.set b (1,(k:Int),0)) s.n j a∧_
  rw[h.fm j hj]
  constructor
  ·rintro⟨h1,h2,_⟩
   have ho:=abz hj hb h1
   exact⟨(XE hj hb h.hl a ho).2 h1,h2,ho⟩
  ·rintro⟨h1,h2,h3⟩
   exact⟨(XE hj hb h.hl a h3).1 h1,h2,fun h=>h⟩
theorem I8.asW{c:List Int}{s:JZ}{N M:Nat}{b k:Nat}(h:I8 c s N fun a=>a/512=b)(hb:1≤b∧b<s.n)(hk:k<32)(hh:s.hs[b]? =some (1,(k:Int),0)){F':Nat→FQ}{MR:FrM}(hF:Ru (xsOf F'))(hFr:Qq F' MR M)
 (h1:∀a,a∈cls (xsOf F') k↔a∈cls (xsOf s.F) k∨∃i:Int,0≤i∧i<Cl.cells k∧a=Kv b k i∧Gz s.U a=false) (h2:∀j,j≠k→cls (xsOf F') j=cls (xsOf s.F) j):I8 c {s with F:=F',FL:=MR} M fun _=>False:=by
 refine⟨h.hl,h.n2,h.sm,h.hd,h.rn,h.su,h.ul,hF,hFr,h.cl,h.us,fun j hj a=>?_⟩
 show a∈cls (xsOf F') j↔Kw s.hs s.n j a∧Gz s.U a=false∧¬False
 by_cases e:j=k
 ·subst e
  rw[h1,h.fm j hj]
  constructor
  ·rintro(⟨h3,h4,_⟩|⟨i,i1,i2,rfl,h3⟩)
   ·exact⟨h3,h4,fun h=>h⟩
   ·exact⟨⟨b,i,hb.1,hb.2,hh,i1,i2,rfl⟩,h3,fun h=>h⟩
  ·rintro⟨h3,h4,_⟩
   by_cases hx:a/512=b
   ·obtain⟨b2,i,e1,e2,e3,e4,e5,rfl⟩:=h3
    rw[Hz Y ⟨e4,e5⟩]at hx
    obtain rfl:b2=b:=Y
    exact .inr ⟨i,e4,e5,rfl,h4⟩
   ·exact .inl ⟨h3,h4,hx⟩
 ·rw[h2 j e,h.fm j hj]
  constructor
  ·rintro⟨h3,h4,_⟩;exact⟨h3,h4,fun h=>h⟩
  ·rintro⟨h3,h4,_⟩
   refine⟨h3,h4,fun hx=>?_⟩
   obtain⟨b2,i,e1,e2,e3,e4,e5,rfl⟩:=h3
   rw[Hz Y ⟨e4,e5⟩]at hx
   obtain rfl:b2=b:=Y
   rw[hh]at e3
   injection e3 with e3
   injection e3 with _ e3
   injection e3 with e3 _
   omega
theorem I8.took{c:List Int}{s:JZ}{N M:Nat}{k:Nat}(h:I8 c s N fun _=>False)(hk:k<32){F':Nat→FQ}{MR:FrM}{at_:Int}(hF:Ru (xsOf F'))(hFr:Qq F' MR M)(h1:(cls (xsOf F') k++ [at_]).Perm (cls (xsOf s.F) k))(h2:∀j,j≠k→(cls (xsOf F') j).Perm (cls (xsOf s.F) j)):
 I8 c {s with F:=F',FL:=MR} M (fun a=>a=at_)∧Kw s.hs s.n k at_∧Gz s.U at_=false:=by
 have hm:at_∈cls (xsOf s.F) k:=h1.mem_iff.1 J
 obtain⟨m1,m2,_⟩:=(h.fm k hk _).1 hm
 have hnd:=h1.nodup_iff.2 (h.fs.nd k hk)
 obtain⟨_,_,hdis⟩:=CS.1 hnd
 refine⟨⟨h.hl,h.n2,h.sm,h.hd,h.rn,h.su,h.ul,hF,hFr,h.cl,h.us,fun j hj a=>?_⟩,m1,m2⟩
 show a∈cls (xsOf F') j↔Kw s.hs s.n j a∧Gz s.U a=false∧¬a=at_
 by_cases e:j=k
 ·subst e
  have h3:=h1.mem_iff (a:=a)
  rw[h.fm j hj,BJ,Bf]at h3
  constructor
  ·intro h4
   obtain⟨h5,h6,_⟩:=h3.1 (.inl h4)
   exact⟨h5,h6,fun e=>hdis a h4 at_ J e⟩
  ·rintro⟨h4,h5,h6⟩
   exact(h3.2 ⟨h4,h5,fun h=>h⟩).resolve_right h6
 ·rw[(h2 j e).mem_iff,h.fm j hj]
  constructor
  ·rintro⟨h4,h5,_⟩
   refine⟨h4,h5,fun e2=>?_⟩
   subst e2
   obtain⟨b2,i,e1,e2,e3,e4,e5,e6⟩:=h4
   obtain⟨b3,i3,f1,f2,f3,f4,f5,f6⟩:=m1
   have hb2:=Hz (b:=(b2:Int)) (k:=(j:Int)) (i:=i) Y ⟨e4,e5⟩
   have hb3:=Hz (b:=(b3:Int)) (k:=(k:Int)) (i:=i3) Y ⟨f4,f5⟩
   rw[←e6]at hb2
   rw[←f6]at hb3
   obtain rfl:b2=b3:=Y
   rw[e3]at f3
   injection f3 with f3
   injection f3 with _ f3
   injection f3 with f3 _
   omega
  ·rintro⟨h4,h5,_⟩;exact⟨h4,h5,fun h=>h⟩
end
end
section
section
open Go.RowKit
theorem I8.perm{c:List Int}{s:JZ}{N M:Nat}{X:Int→Prop}(h:I8 c s N X){F':Nat→FQ}{MR:FrM}(hF:Ru (xsOf F'))(hFr:Qq F' MR M)(hp:∀j,(cls (xsOf F') j).Perm (cls (xsOf s.F) j)):I8 c {s with F:=F',FL:=MR} M X:=
 ⟨h.hl,h.n2,h.sm,h.hd,h.rn,h.su,h.ul,hF,hFr,h.cl,h.us,fun j hj a=>by
  show a∈cls (xsOf F') j↔_
  rw[(hp j).mem_iff];exact h.fm j hj a⟩
structure Hst (d d':Nv.D) (m:Nat):Prop where
 D:Dv d' m
 o:∀x:Int,¬(256≤x∧x<512)→Nv.get d'.cache x=Nv.get d.cache x
 k:∀j,Un d j=false→Un d' j=false
theorem Hst.refl{d:Nv.D}{m:Nat}(h:Dv d m):Hst d d m:=⟨h,fun _ _=>rfl,fun _ h=>h⟩
theorem anX{d d1 d2:Nv.D}{m b:Nat}{v:Int}(hD:Dv d m)(h1:Sto d d1 m (256+b) v)(h2:Per d1 d2 m (256+b) 1)(hm:512≤8*m)(hb:b<256):
 Hst d d2 m∧d2.cache.length=d.cache.length∧∀x:Int,Nv.get d2.cache x=if x=256+(b:Int)then v else Nv.get d.cache x:=by
 have hg:∀x:Int,Nv.get d2.cache x=if x=256+(b:Int)then v else Nv.get d.cache x:=fun x=>by
  rw[h2.c,h1.get Y hD.len x,show((256+b:Nat):Int)=256+(b:Int)by omega]
 refine⟨⟨h2.D,fun x hx=>by rw[hg,if_neg Y],fun j hj=>?_⟩,by rw[h2.D.len,hD.len],hg⟩
 by_cases e:j=(256+b)/8
 ·rw[e];exact h2.q (256+b) (Bg _) Y
 ·exact h2.k j (by rw[h1.k j e];exact hj)
theorem ake{L:List Int}{b k:Nat}{m:Nat}(hk:k<32)(hm:Cl.cells k=m)(hn:L.Nodup)(h:∀a,a∈L↔∃i:Int,0≤i∧i<Cl.cells k∧a=Kv b k i):L.length=m:=by
 have hnd:((List.range m).map fun(i:Nat)=>Kv b k i).Nodup:=by
  refine RX.2 (List.nodup_range.imp ?_)
  intro i j hij e
  refine hij ?_
  rcases Nat.lt_trichotomy i j with h1|h1|h1
  ·have:=XL (b:=(b:Int)) (k:=(k:Int)) Y (show(i:Int)<j by omega);omega
  ·exact h1
  ·have:=XL (b:=(b:Int)) (k:=(k:Int)) Y (show(j:Int)<i by omega);omega
 have hp:L.Perm ((List.range m).map fun(i:Nat)=>Kv b k i):=by
  refine(Ri hn hnd).2 fun a=>?_
  ·rw[h,BX]
   constructor
   ·rintro⟨i,h1,h2,rfl⟩
    exact⟨i.toNat,H7.2 Y,by rw[JD h1]⟩
   ·rintro⟨i,h1,rfl⟩
    exact⟨i,Y,by have:=H7.1 h1;omega,rfl⟩
 rw[hp.length_eq,Ci,List.length_range]
theorem ao0{g:Geo}{d:Nv.D}{m n pM pT p c pX bS bE:Nat}{hs:List Ob.H3}{rs:List Value}{S E:IL}{w:World}(hE:DW (grp (Dz g d)::mnE g n pM pT p hs rs c pX bS bE S E) w)(hD:Dv d m)(hg:Wi g m)(hm:m≤100000)(hnm:256+n≤8*m)(hl:hs.length=n)(hn:n≤1000)(hO:Rn.Ok S E n (UR hs n))(k:Int)(hk:0≤k∧k<32)(hav:∃b:Nat,UR hs n b):
 Calls prog 218 [ptr pM,.int .i64 k].toArray w fun e w'=>∃(b:Nat) (d1 d2:Nv.D) (S' E':IL),1≤b∧b<n∧UR hs n b∧Sto d d1 m (256+b) (Bh.enc 1 k 0 (256+(b:Int)))∧Per d1 d2 m (256+b) 1∧Rn.Ok S' E' n (UR (hs.set b (1,k,0)) n)∧e= .returned (.tuple #[.int .i64 b,.int .i64 0])∧
  Heap w (ids (grp (Dz g d)::mnE g n pM pT p hs rs c pX bS bE S E)) (grp (Dz g d2)::mnE g n pM pT p (hs.set b (1,k,0)) rs c pX bS bE S' E') w':=
 (ao1 hE hD hg hm hnm hl hn hO k hk).mono fun e w' h=>h.elim (fun h=>absurd hav.choose_spec (h.1 _)) id
def lk(F:Nat→FQ)(k:Nat):Nat:=(cls (xsOf F) k).length
structure avG (m:Nat) (s:JZ) (N k:Nat) (d d':Nv.D) (hs':List Ob.H3) (S' E':IL) (F':Nat→FQ) (MR:FrM) (a:Int):Prop where
 D:Hst d d' m
 A:I8 d'.cache {s with hs:=hs',S:=S',E:=E',F:=F',FL:=MR} (N+264) fun x=>x=a
 c:Kw hs' s.n k a
 u:Gz s.U a=false
 q:hs'=s.hs∧lk F' k+1=lk s.F k∨lk s.F k=0∧(∃b:Nat,UR s.hs s.n b∧hs'=s.hs.set b (1,(k:Int),0))∧(lk F' k:Int)+1=Cl.cells k
 o:∀j,j≠k→lk F' j=lk s.F j
theorem asq(g:Geo)(d:Nv.D)(m:Nat)(s:JZ)(N:Nat)(p q:Int)(k:Nat)(w:World)(hE:DW (grp (Dz g d)::s.L g) w)(hD:Dv d m)(hg:Wi g m)(hm:m≤100000)(hA:I8 d.cache s N fun _=>False)(hN:N≤80000)(hp:0≤p∧p≤63)(hq:0≤q∧q≤16384)(hz:Cl.ofB (Cl.size p q)=true)(hk:Cl.WQ (Cl.size p q)=k)
 (hroom:lk s.F k≠0∨∃b:Nat,UR s.hs s.n b):
 Calls prog 157 [ptr s.pA,.int .i64 0,.agg [.int .i64 p,.int .i64 q].toArray].toArray w fun e w'=>∃d' hs' S' E' F' MR a,avG m s N k d d' hs' S' E' F' MR a∧e= .returned (.tuple #[.int .i64 a,.int .i64 0])∧
  Heap w (ids (grp (Dz g d)::s.L g)) (grp (Dz g d')::JZ.L g {s with hs:=hs',S:=S',E:=E',F:=F',FL:=MR}) w':=by
 have H:=Heap.start hE
 have hkb:=Cl.QO (Cl.size p q)
 have J6:k<32:=Y
 have hcb:=Cl.Yy k
 have hn2:=hA.n2
 have hml:8*m=512*s.n:=by rw[←hD.len];exact hA.cl
 have hS:=fun(W:World)=>aev p q W Y Y
 rw[hz,hk]at hS
 generalize ids (grp (Dz g d)::s.L g)=I at*
 unfold JZ.L JZ.C at H⊢
 by_cases h0:cls (xsOf s.F) k=[]
 ·have hav:=hroom.resolve_left (fun h=>h (by unfold lk;rw[h0];rfl))
  obtain⟨S1,e1,f1,p1⟩:=aom hA.fs J6 h0
  have hT:=fun{W:World} hE=>amK (p:=s.pF) (b:=s.bF) (w:=W) hE hA.fr Y 0 k
  rw[e1]at hT
  simp only at hT
  refine BM 89 func157 O (Aw (DU H O O fun p5 _ H=>AQ O (nG ?_)))
  refine tZ ?_
  refine BI H O (hS _) (Ym O) fun W1 H=>sW ?_
  rintro e W1 ⟨rfl,F1,FL1,H',hF1,hx1⟩
  refine⟨_,rfl,?_⟩
  have H:=H.DN 8 rfl H';clear H';simp only[Bv]at H
  refine eH ?_
  refine Au (Aw (Az O (mD ?_)))
  refine AP (AP ?_)
  have hA1:=hA.perm (MR:=FL1) (M:=N+4) (by rw[hx1];exact f1) hF1 (fun j=>by rw[hx1];exact p1 j)
  have h01:cls (xsOf F1) k=[]:=by
   have:=(p1 k).length_eq
   rw[h0,Jy]at this
   rw[hx1];exact BZ this
  have hcp:1≤Cl.cells k:=by
   rw[Cl.abV k Y Y]
   have:=Cl.Tc k
   have h2:=Cl.Hg k Y Y
   exact(LD Y).2 Y
  refine sN ?_
  refine BR O aeK (BD H 2 O O O amE (Az O ?_))
  refine s_call O ((by have H2:Heap w I ([_,_,_,_,_]++ [_,_,_,_]) _:=H.order [1,3,4,5,6,0,2,7,8] O O;exact ao0 H2.part hD hg hm Y hA.hl Y hA.rn k Y hav)) (avl O) ?_
  rintro e W1 ⟨b,d1,d2,S2,E2,hb1,hbn,hfr,st1,st2,hrn,rfl,H'⟩
  refine⟨_,rfl,?_⟩
  have H2:Heap w I ([_,_,_,_,_]++ [_,_,_,_]) _:=H.order [1,3,4,5,6,0,2,7,8] rfl rfl;have H3:=H2.step H' (fun i hi=>hi);clear H H' H2;simp only[mnE,EJ,EH]at H3;have H:Heap w I [_,_,_,_,_,_,_,_,_] _:=H3.order [5,0,6,1,2,3,4,7,8] rfl rfl;clear H3
  refine eH ?_
  refine Au (Aw (Az O (AL (Fv O O Y) (Au (EI O (AP ?_))))))
  obtain⟨hst,hlen2,hget⟩:=anX hD st1 st2 Y Y
  have hA2:=hA1.small hfr J6 hrn hlen2 hget
  have hsb:(s.hs.set b (1,(k:Int),0))[b]? =some (1,(k:Int),0):=JI (by have:=hA.hl;omega)
  have hC:=fun{W:World} hE=>aii g {s with hs:=s.hs.set b (1,(k:Int),0),S:=S2,E:=E2,F:=F1,FL:=FL1} W hE hA.su hn2.2 (N+4) Y hA1.fs hA1.fr b k ⟨hb1,hbn⟩ J6 (fun i _ _ hm=>by rw[show cls (xsOf F1) k=[]from h01]at hm;cases hm)
  refine DR (BF O (Az O (Az O ?_)))
  refine s_call O ((by have H2:Heap w I ([_,_,_,_,_,_,_]++ [_,_]) _:=H.order [2,3,4,5,6,7,8,0,1] O O;exact hC H2.part)) (apZ O) ?_
  rintro e W1 ⟨F2,FL2,rfl,f2,hF2,hm2,ho2,H'⟩
  refine⟨_,rfl,?_⟩
  have H2:Heap w I ([_,_,_,_,_,_,_]++ [_,_]) _:=H.order [2,3,4,5,6,7,8,0,1] rfl rfl;have H3:=H2.step H' (fun i hi=>hi);clear H H' H2;simp only[JZ.L,JZ.C,EJ,EH]at H3;have H:Heap w I [_,_,_,_,_,_,_,_,_] _:=H3.order [7,8,0,1,2,3,4,5,6] rfl rfl;clear H3
  refine Au (AP ?_)
  have hA3:=hA2.asW ⟨hb1,hbn⟩ J6 hsb f2 hF2 hm2 ho2
  have hfresh:∀i:Int,0≤i→i<Cl.cells k→Gz s.U (Kv b k i)=false:=fun i h1 h2=>hA.fresh hfr k J6 i ⟨h1,h2⟩
  have atu:∀a,a∈cls (xsOf F2) k↔∃i:Int,0≤i∧i<Cl.cells k∧a=Kv b k i:=fun a=>by
   rw[hm2]
   show a∈cls (xsOf F1) k∨_↔_
   rw[h01]
   constructor
   ·rintro(h|⟨i,h1,h2,h3,_⟩)
    ·cases h
    ·exact⟨i,h1,h2,h3⟩
   ·rintro⟨i,h1,h2,rfl⟩
    exact .inr ⟨i,h1,h2,rfl,hfresh i h1 h2⟩
  have hne:cls (xsOf F2) k≠[]:=fun h=>by
   have:=(atu (Kv b k 0)).2 ⟨0,Y,Y,rfl⟩
   rw[h]at this;cases this
  obtain⟨S3,a,e3,f3,q1,q2⟩:=ah6 f2 J6 hne
  have hT2:=fun{W:World} hE=>amK (p:=s.pF) (b:=s.bF) (w:=W) hE hF2 Y 0 k
  rw[e3]at hT2
  simp only at hT2
  refine sN ?_
  refine BR O Z4 (BD H 2 O O O aiL (Az O (Az O (s_call O (hT2 (H.Bl 8 O)) (als O) ?_))))
  rintro e W1 ⟨rfl,F3,FL3,H',hF3,hx3⟩
  refine⟨_,rfl,?_⟩
  have H:=H.DN 8 rfl H';clear H';simp only[Bv]at H
  refine DK O O (DK O O (uD ?_))
  rw[←hx3]at f3 q1 q2
  obtain⟨t1,t2,t3⟩:=hA3.took (MR:=FL3) (M:=N+264) J6 f3 (by rw[show N+264=N+4+256+4 by omega];exact hF3) q1 q2
  have hlen:=q1.length_eq
  rw[Cm]at hlen
  obtain⟨mm,hmm⟩:∃mm:Nat,Cl.cells k=(mm:Int):=⟨(Cl.cells k).toNat,Y⟩
  have hall:=ake J6 hmm (f2.nd k J6) atu
  refine⟨d2,s.hs.set b (1,(k:Int),0),S2,E2,F3,FL3,a,⟨hst,t1,t2,t3,.inr ⟨by unfold lk;rw[h0];rfl,⟨b,hfr,rfl⟩,?_⟩,fun j hj=>?_⟩,rfl,H.drop⟩
  ·unfold lk
   rw[hmm]
   have h1:(cls (xsOf F3) k).length+1=mm:=by rw[←hall];exact hlen
   omega
  ·unfold lk
   rw[(q2 j hj).length_eq,ho2 j hj]
   show(cls (xsOf F1) j).length=_
   rw[hx1]
   exact(p1 j).length_eq
 ·obtain⟨S1,a,e1,f1,p1,p2⟩:=ah6 hA.fs J6 h0
  have hT:=fun{W:World} hE=>amK (p:=s.pF) (b:=s.bF) (w:=W) hE hA.fr Y 0 k
  rw[e1]at hT
  simp only at hT
  refine BM 89 func157 O (Aw (DU H O O fun p5 _ H=>AQ O (nG ?_)))
  refine tZ ?_
  refine BI H O (hS _) (Ym O) fun W1 H=>sW ?_
  rintro e W1 ⟨rfl,F1,FL1,H',hF1,hx1⟩
  refine⟨_,rfl,?_⟩
  have H:=H.DN 8 rfl H';clear H';simp only[Bv]at H
  refine eH ?_
  refine Au (Aw (Az O (AL (Fv O O Y) (ql ?_))))
  refine Az O (Az O (uD ?_))
  rw[←hx1]at f1 p1 p2
  obtain⟨t1,t2,t3⟩:=hA.took (MR:=FL1) (M:=N+264) J6 f1 ⟨hF1.keys,hF1.got,fun i hi=>F9 (hF1.len i hi) Y⟩ p1 p2
  refine⟨d,s.hs,s.S,s.E,F1,FL1,a,⟨Hst.refl hD,t1,t2,t3,.inl ⟨rfl,?_⟩,fun j hj=>(p2 j hj).length_eq⟩,rfl,H.drop⟩
  have:=p1.length_eq
  rw[Cm]at this
  exact this
end
end
section
section
open Go.RowKit
theorem avu(n:Int)(w:World)(hn:1≤n∧n≤1000):
 Calls prog 156 [.agg [.int .i64 n].toArray].toArray w fun e w'=>e= .returned (.int .i64 ((n-1)*512))∧Only [] w w':=by
 have H:=Heap.nil w
 refine BM 8 func156 O (Aw (DU H O O fun p1 _ H=>nG ?_))
 refine BR O Ou (mQ ?_)
 refine nK ?_
 refine Hf O O (ZB (c:=n-1) O O zJ) (AL (Yf O O (wI Y)) (fH ?_))
 exact⟨rfl,H.only⟩
theorem Ib.put'{b:Nat}{A:Option Addr}{c:Nat}{l:List Bool}(h:Ib b A c l)(x:Int)(v:Bool):Ib b A c (Bm.put l x v):=
 ⟨fun h0=>h.row (by unfold Bm.nw at h0⊢;rw[Bm.Yp]at h0;exact h0),by rw[Bm.Yp];exact h.len⟩
theorem Kw.apart{hs:List Ob.H3}{n k j:Nat}{a x:Int}(ha:Kw hs n k a)(hx:Kw hs n j x)(hk:k<32)(hj:j<32)(hne:x≠a):¬(a≤x∧x<a+Cl.words k):=by
 obtain⟨b,i,b1,b2,b3,i1,i2,rfl⟩:=ha
 obtain⟨b',i',c1,c2,c3,j1,j2,rfl⟩:=hx
 have e1:=VD (b:=(b:Int)) (k:=(k:Int)) (i:=i) Y ⟨i1,i2⟩
 have e2:=VD (b:=(b':Int)) (k:=(j:Int)) (i:=i') Y ⟨j1,j2⟩
 have w2:=Cl.Hg (j:Int) Y Y
 intro h
 obtain rfl:b=b':=Y
 rw[b3]at c3
 injection c3 with c3
 injection c3 with _ c3
 injection c3 with c3 _
 obtain rfl:k=j:=Y
 rcases MJ i i' with h1|h1|h1
 ·have:=Po (show i+1≤i' by omega) (show 0≤Cl.words k by omega)
  rw[Int.add_mul,RD]at this
  unfold Kv at h
  omega
 ·subst h1;exact hne rfl
 ·have:=XL (b:=(b:Int)) (k:=(k:Int)) Y h1
  omega
theorem I8.made{c c':List Int}{s:JZ}{N k n at_:Nat}{p q:Int}(h:I8 c s N fun x=>x=(at_:Int))(hk:k<32)(hc:Kw s.hs s.n k at_)(hu:Gz s.U at_=false)(hp:0≤p∧p≤63)(hq:0≤q∧q≤16384)(hn:(n:Int)=1+p+q)(hz:Cl.ofB n=true)(hkk:Cl.WQ n=k)
 (hl:c'.length=c.length) (h1:Nv.get c' at_=Oh.enc p q at_) (h2:∀x:Int,¬((at_:Int)≤x∧x<at_+n)→Nv.get c' x=Nv.get c x):I8 c' {s with U:=Bm.put s.U at_ true} N fun _=>False:=by
 have hbd:=hc.bd hk
 have hn2:=h.n2
 have hzz:1≤(n:Int)∧(n:Int)≤256:=by simpa [Cl.ofB]using hz
 have hnw:(n:Int)≤Cl.words k:=by rw[←hkk];exact(Cl.SY n hzz.1 hzz.2).le
 have hul:0≤(at_:Int)∧(at_:Int)<s.U.length:=by rw[h.ul];have:=Cl.Hg k Y Y;omega
 have hput:∀a,Gz (Bm.put s.U at_ true) a=if(at_:Int)=a then true else Gz s.U a:=fun a=>Bm.XZ s.U at_ a true hul
 have hsz:Cl.size p q=n:=by rw[(Cl.LY p q hp.1 hp.2 hq.1 hq.2).1];omega
 obtain⟨g1,g2,g3⟩:=Oh.Qx p q at_ hp.1 hp.2 hq.1 hq.2
 refine⟨h.hl,h.n2,h.sm,⟨h.hd.h0,fun b x b1 b2=>?_⟩,h.rn,h.su.put' _ _,by rw[Bm.Yp];exact h.ul,h.fs,h.fr,by rw[hl];exact h.cl,fun a ha=>?_,fun j hj a=>?_⟩
 ·have hbl:=(BA.1 b2).1
  have hhl:=h.hl
  replace hbl:b<s.hs.length:=hbl
  have:=h.hd.at_ b x b1 b2
  exact⟨this.1,by rw[h2 _ Y];exact this.2⟩
 ·replace ha:Gz (Bm.put s.U at_ true) a=true:=ha
  show Ob.pl s.n c' s.hs a=true
  rw[abk h.sm h.hl]
  rw[hput]at ha
  by_cases e:(at_:Int)=a
  ·subst e
   have hhd:Ob.hd c' at_=true:=Ob.aqy ⟨Y,by rw[hl,h.cl];have:=Cl.Hg k Y Y;omega⟩ (by rw[h1];exact g1) (by rw[h1,g2,g3,hsz,hl,h.cl];omega)
   have hpp:Ob.hp c' at_=p:=by unfold Ob.hp;rw[if_pos hhd,h1];exact g2
   have hqq:Ob.hq c' at_=q:=by unfold Ob.hq;rw[if_pos hhd,h1];exact g3
   rw[hpp,hqq,hsz]
   exact⟨hhd,hz,k,hk,hkk,hc⟩
  ·rw[if_neg e]at ha
   obtain⟨p1,p2,j,p3,p4,p5⟩:=(abk h.sm h.hl a).1 (h.us a ha)
   have hap:=hc.apart p5 hk p3 (fun e2=>e e2.symm)
   have hg:Nv.get c' a=Nv.get c a:=h2 a Y
   obtain⟨k1,k2,k3⟩:=XV hl hg
   rw[k1,k2,k3]
   exact⟨p1,p2,j,p3,p4,p5⟩
 ·show a∈cls (xsOf s.F) j↔Kw s.hs s.n j a∧Gz (Bm.put s.U at_ true) a=false∧¬False
  rw[h.fm j hj,hput]
  constructor
  ·rintro⟨h3,h4,h5⟩
   exact⟨h3,by rw[if_neg (fun e=>h5 e.symm)];exact h4,fun h=>h⟩
  ·rintro⟨h3,h4,_⟩
   by_cases e:(at_:Int)=a
   ·rw[if_pos e]at h4;cases h4
   ·rw[if_neg e]at h4;exact⟨h3,h4,fun e2=>e e2.symm⟩
end
end
section
section
open Go.RowKit
structure UG (m:Nat) (s:JZ) (N:Nat) (p q:Int) (n k:Nat) (d d':Nv.D) (hs':List Ob.H3) (S' E':IL) (F':Nat→FQ) (MR:FrM) (a:Nat):Prop where
 dv:Dv d' m
 al:I8 d'.cache {s with hs:=hs',S:=S',E:=E',F:=F',FL:=MR,U:=Bm.put s.U a true} (N+264) fun _=>False
 ce:Kw hs' s.n k a
 un:Gz s.U a=false
 w0:Nv.get d'.cache a=Oh.enc p q a
 wz:∀x:Nat,0<x→x<n→Nv.get d'.cache ((a+x:Nat):Int)=0
 ot:∀x:Int,¬((a:Int)≤x∧x<a+n)→¬(256≤x∧x<512)→Nv.get d'.cache x=Nv.get d.cache x
 cl:∀j,(∀x,a≤x→x<a+n→x/8≠j)→Un d j=false→Un d' j=false
 cap:hs'=s.hs∧lk F' k+1=lk s.F k∨lk s.F k=0∧(∃b:Nat,UR s.hs s.n b∧hs'=s.hs.set b (1,(k:Int),0))∧(lk F' k:Int)+1=Cl.cells k
 oth:∀j,j≠k→lk F' j=lk s.F j
theorem aoi(g:Geo)(d:Nv.D)(m:Nat)(s:JZ)(N:Nat)(p q:Int)(n k:Nat)(w:World)(hE:DW (grp (Dz g d)::s.L g) w)(hD:Dv d m)(hg:Wi g m)(hm:m≤100000)(hA:I8 d.cache s N fun _=>False)(hN:N≤80000)(hp:0≤p∧p≤63)(hq:0≤q∧q≤16384)(hn:(n:Int)=1+p+q)(hz:Cl.ofB n=true)(hk:Cl.WQ n=k)
 (hroom:lk s.F k≠0∨∃b:Nat,UR s.hs s.n b):
 Calls prog 92 [ptr s.pA,.int .i64 0,.int .i64 p,.int .i64 q].toArray w fun e w'=>∃d' hs' S' E' F' MR a,UG m s N p q n k d d' hs' S' E' F' MR a∧e= .returned (.tuple #[.int .i64 (a:Nat),.int .i64 0])∧
  Heap w (ids (grp (Dz g d)::s.L g)) (grp (Dz g d')::JZ.L g {s with hs:=hs',S:=S',E:=E',F:=F',FL:=MR,U:=Bm.put s.U (a:Nat) true}) w':=by
 have H:=Heap.start hE
 have hn2:=hA.n2
 have hsz:Cl.size p q=n:=by rw[(Cl.LY p q hp.1 hp.2 hq.1 hq.2).1];omega
 have hzz:1≤(n:Int)∧(n:Int)≤256:=by simpa [Cl.ofB]using hz
 have hml:8*m=512*s.n:=by rw[←hD.len];exact hA.cl
 have hS:=fun(W:World)=>aex p q W Y Y
 have hMo:=fun(W:World)=>avu s.n W Y
 rw[hsz]at hS
 have J6:k<32:=by have:=Cl.QO (n:Int);omega
 have hnw:(n:Int)≤Cl.words k:=by rw[←hk];exact(Cl.SY n hzz.1 hzz.2).le
 generalize ids (grp (Dz g d)::s.L g)=I at*
 have hR:=fun{W:World} hE=>asq g d m s N p q k W hE hD hg hm hA hN hp hq (by rw[hsz];exact hz) (by rw[hsz];exact hk) hroom
 unfold JZ.L JZ.C at H⊢
 refine BM 65 func92 O (Aw (AQ O (oG ?_)))
 refine Az O (AL (FP (acQ _ _) O) (Ea H O FK fun p10 _ H=>gX ?_))
 clear H;refine ayJ fun _ H=>?_
 refine Au (AP (E8 (Aw (Az O (AL (CO O O Y) (BL O (AX 20 O (Fz O) (AX 20 O (F7 O O Y) (Dp O O (BN O (Au (DX O (AP ?_)))))))))))))
 refine Jj (fun f W=>f 0=ptr s.pA∧f 1= .int .i64 0∧f 10=ptr p10∧f 24= .bool false∧Heap w I [blk p10 [.int .i64 p,.int .i64 q] 205,grp (Dz g d),blk s.pA [ptr s.pM,ptr g.p,.int .i64 s.n,pt s.pU,abE s.pF] 238,blk s.pM (mnC s.pT s.pX s.n) 265,blk s.pT (tbC g s.n s.ph s.hc) 306,hrow s.ph s.hs s.rs,grp (SC s.pX s.bS s.bE s.S s.E s.n),grp (JJ s.pU s.bU s.AU s.cU s.U),grp (frE s.pF s.bF s.F s.F s.FL)] W) ?_ ?_
 ·refine Gu mixed ?_;replace H:=H.drew
  refine Bd 0 O (tZ ?_)
  refine tH ?_
  refine BI H O (hS _) (Zn O) fun W1 H=>aj ?_
  refine Dj 2 O O O (fun _ hS=>Fb O O Y) trivial (Dj 3 O O O (fun _ hS=>BP (v:= .bool _) O) trivial (Dj 6 O O (EP 28 Ak O) (fun _ hS=>BP (v:= .pointer _) O) trivial (Dj 7 O O (EP 28 Ak O) (fun _ hS=>ES O) trivial (Dj 8 O O (EP 28 Ak O) (fun _ hS=>CB O ZW) trivial ?_))))
  refine D6 4 9 ?_ ?_
  ·refine BO O (AX 28 O (Je H 0 O O O EY DF) (aj ?_))
   refine D6 5 9 ?_ ?_
   ·refine BO O (s_call (EP 28 Ak O) (hS _) (Zn O) ?_)
    rintro e W1 ⟨rfl,H'⟩
    refine⟨_,rfl,?_⟩
    have H:=H.same H';clear H'
    refine aj ?_
    refine Bd 9 O (xC ?_)
    refine qC ?_
    refine s_call (EP 28 Ak O) (hMo _) (alx O) ?_
    rintro e W1 ⟨rfl,H'⟩
    refine⟨_,rfl,?_⟩
    have H:=H.same H';clear H'
    refine aj ?_
    refine gI ?_
    exact⟨rfl,rfl,rfl,rfl,H⟩
   ·refine BO O (xC ?_)
    refine iE ?_
    refine s_call (EP 28 Ak O) (hS _) (Zn O) ?_
    rintro e W1 ⟨rfl,H'⟩
    refine⟨_,rfl,?_⟩
    have H:=H.same H';clear H'
    refine qC ?_
    refine s_call (EP 28 Ak O) (hMo _) (alx O) ?_
    rintro e W1 ⟨rfl,H'⟩
    refine⟨_,rfl,?_⟩
    have H:=H.same H';clear H'
    refine aj ?_
    refine gI ?_
    exact⟨rfl,rfl,rfl,rfl,H⟩
  ·refine BO O (xC ?_)
   refine kL ?_
   refine AX 28 O (Je H 0 O O O EY DF) (iE ?_)
   refine s_call (EP 28 Ak O) (hS _) (Zn O) ?_
   rintro e W1 ⟨rfl,H'⟩
   refine⟨_,rfl,?_⟩
   have H:=H.same H';clear H'
   refine qC ?_
   refine s_call (EP 28 Ak O) (hMo _) (alx O) ?_
   rintro e W1 ⟨rfl,H'⟩
   refine⟨_,rfl,?_⟩
   have H:=H.same H';clear H'
   refine aj ?_
   refine gI ?_
   exact⟨rfl,rfl,rfl,rfl,H⟩
 clear H
 rintro f W ⟨f0,f1,f10,f24,H⟩
 obtain⟨f,rfl⟩:=Ih f0 f1 f10 f24
 clear f0 f1 f10 f24
 refine AO (oU ?_)
 refine jl ?_
 refine tZ ?_
 refine s_call O (hR H.drop.ents) (auO O) ?_
 rintro e W1 ⟨d1,hs1,S1,E1,F1,FL1,a,hP,rfl,H'⟩
 refine⟨_,rfl,?_⟩
 have H2:Heap w I ([_,_,_,_,_,_,_,_]++ [_]) _:=H.order [1,2,3,4,5,6,7,8,0] rfl rfl;have H3:=H2.step H' (fun i hi=>hi);clear H H' H2;simp only[JZ.L,JZ.C,EJ,EH]at H3;have H:Heap w I [_,_,_,_,_,_,_,_,_] _:=H3.order [8,0,1,2,3,4,5,6,7] rfl rfl;clear H3
 refine wQ ?_
 refine AP (AP ?_)
 have hcb:=hP.c.bd J6
 obtain⟨b,rfl⟩:=Bo (show 0≤a by omega)
 have hl1:d1.cache.length=512*s.n:=by rw[hP.D.D.len];exact hml
 have hIn:=fun{W:World} hE=>arE g d1 m b p q n W hE hP.D.D hm hp hq hn Y
 refine Jj (fun f W=>∃d2,Wri d1 d2 m b n (fun x=>if x=0 then Oh.enc p q b else 0)∧f 0=ptr s.pA∧f 11= .int .i64 b∧f 13= .int .i64 0∧Heap w I [grp (Dz g d2),blk s.pA [ptr s.pM,ptr g.p,.int .i64 s.n,pt s.pU,abE s.pF] 238,blk s.pM (mnC s.pT s.pX s.n) 265,blk s.pT (tbC g s.n s.ph s.hc) 306,hrow s.ph hs1 s.rs,grp (SC s.pX s.bS s.bE S1 E1 s.n),grp (JJ s.pU s.bU s.AU s.cU s.U),grp (frE s.pF s.bF F1 F1 FL1)] W) ?_ ?_
 ·refine Gu mixed ?_;replace H:=H.drew
  refine bI ?_
  refine Dj 2 O O O (fun _ hS=>CB O aen) trivial (qE ?_)
  refine D6 3 5 ?_ ?_
  ·refine BO O (BD H 2 O O O Kt (iE ?_))
   refine tZ ?_
   refine nH ?_
   refine s_call O (hIn (H.Bl 1 O)) (aqT O) ?_
   rintro e W1 ⟨d2,hW,rfl,H'⟩
   refine⟨_,rfl,?_⟩
   have H:=H.DN 1 rfl H';clear H';simp only[Bv]at H
   refine aj ?_
   refine Dj 7 O O O (fun _ hS=>DJ (v:= .int _ _) O) trivial (CJ (Dt ?_))
   exact⟨d2,hW,rfl,rfl,rfl,H.drop⟩
  ·refine BO O (tZ ?_)
   refine qx ?_
   refine BD H 2 O O O Kt (nH ?_)
   refine s_call O (hIn (H.Bl 1 O)) (aqT O) ?_
   rintro e W1 ⟨d2,hW,rfl,H'⟩
   refine⟨_,rfl,?_⟩
   have H:=H.DN 1 rfl H';clear H';simp only[Bv]at H
   refine aj ?_
   refine Dj 7 O O O (fun _ hS=>DJ (v:= .int _ _) O) trivial (CJ (Dt ?_))
   exact⟨d2,hW,rfl,rfl,rfl,H.drop⟩
 clear H
 rintro f W ⟨d2,hW,f0,f11,f13,H⟩
 obtain⟨f,rfl⟩:=OE f0 f11 f13
 clear f0 f11 f13
 have hAd:=fun{W:World} hE=>anR (p:=s.pU) hA.su W hE (b:Int)
 have hin:decide (0≤(b:Int)∧(b:Int)<s.U.length)=true:=decide_eq_true (by rw[hA.ul];have:=Cl.Hg k Y Y;omega)
 have hno:Bm.has s.U b=false:=hP.u
 rw[hin,hno]at hAd
 simp only[Bool.not_false,Bool.and_self]at hAd
 refine AO (aT ?_)
 refine AO (eY ?_)
 refine BR O XI (BD H 1 O O O PN (Az O (s_call O (hAd (H.Bl 6 O)) (ajf O) ?_)))
 rintro e W1 ⟨rfl,H'⟩
 refine⟨_,rfl,?_⟩
 have H:=H.DN 6 rfl H';clear H';simp only[Bv]at H
 refine Au (Aw (Az O (pI ?_)))
 have hw0:Nv.get d2.cache b=Oh.enc p q b:=by have:=hW.i 0 Y;simpa using this
 refine⟨d2,hs1,S1,E1,F1,FL1,b,⟨hW.D,hP.A.made J6 hP.c hP.u hp hq hn hz hk (by rw[hW.D.len,hP.D.D.len]) hw0 hW.o,hP.c,hP.u,hw0,fun x h1 h2=>?_,fun x h1 h2=>?_,fun j h1 h2=>?_,hP.q,hP.o⟩,rfl,H⟩
 ·have:=hW.i x h2
  rw[this]
  show(if x=0 then _ else _)=_
  rw[if_neg Y]
 ·rw[hW.o x h1];exact hP.D.o x h2
 ·rw[hW.k j h1];exact hP.D.k j h2
end
end
section
section
open Go.RowKit
theorem I8.congr{c:List Int}{s:JZ}{N:Nat}{X Ap:Int→Prop}(h:I8 c s N X)(e:∀k a,k<32→Kw s.hs s.n k a→(X a↔Ap a)):I8 c s N Ap:=
 ⟨h.hl,h.n2,h.sm,h.hd,h.rn,h.su,h.ul,h.fs,h.fr,h.cl,h.us,fun k hk a=>by
  rw[h.fm k hk]
  constructor
  ·rintro⟨h1,h2,h3⟩;exact⟨h1,h2,fun hy=>h3 ((e k a hk h1).2 hy)⟩
  ·rintro⟨h1,h2,h3⟩;exact⟨h1,h2,fun hx=>h3 ((e k a hk h1).1 hx)⟩⟩
theorem I8.aph{c:List Int}{s:JZ}{N M:Nat}{b k:Nat}{X:Int→Prop}(h:I8 c s N X)(hX:∀a,a/512=b→X a)(hb:1≤b∧b<s.n)(hk:k<32)(hh:s.hs[b]? =some (1,(k:Int),0)){F':Nat→FQ}{MR:FrM}(hF:Ru (xsOf F'))(hFr:Qq F' MR M)
 (h1:∀a,a∈cls (xsOf F') k↔a∈cls (xsOf s.F) k∨∃i:Int,0≤i∧i<Cl.cells k∧a=Kv b k i∧Gz s.U a=false) (h2:∀j,j≠k→cls (xsOf F') j=cls (xsOf s.F) j):I8 c {s with F:=F',FL:=MR} M fun a=>X a∧a/512≠b:=by
 refine⟨h.hl,h.n2,h.sm,h.hd,h.rn,h.su,h.ul,hF,hFr,h.cl,h.us,fun j hj a=>?_⟩
 show a∈cls (xsOf F') j↔Kw s.hs s.n j a∧Gz s.U a=false∧¬(X a∧a/512≠b)
 by_cases e:j=k
 ·subst e
  rw[h1,h.fm j hj]
  constructor
  ·rintro(⟨h3,h4,h5⟩|⟨i,i1,i2,rfl,h3⟩)
   ·exact⟨h3,h4,fun h=>h5 h.1⟩
   ·exact⟨⟨b,i,hb.1,hb.2,hh,i1,i2,rfl⟩,h3,fun h=>h.2 (Hz Y ⟨i1,i2⟩)⟩
  ·rintro⟨h3,h4,h5⟩
   by_cases hx:a/512=b
   ·obtain⟨b2,i,e1,e2,e3,e4,e5,rfl⟩:=h3
    rw[Hz Y ⟨e4,e5⟩]at hx
    obtain rfl:b2=b:=Y
    exact .inr ⟨i,e4,e5,rfl,h4⟩
   ·exact .inl ⟨h3,h4,fun hxx=>h5 ⟨hxx,hx⟩⟩
 ·rw[h2 j e,h.fm j hj]
  constructor
  ·rintro⟨h3,h4,h5⟩;exact⟨h3,h4,fun h=>h5 h.1⟩
  ·rintro⟨h3,h4,h5⟩
   refine⟨h3,h4,fun hx=>h5 ⟨hx,?_⟩⟩
   obtain⟨b2,i,e1,e2,e3,e4,e5,rfl⟩:=h3
   rw[Hz Y ⟨e4,e5⟩]
   intro hbb
   obtain rfl:b2=b:=Y
   rw[hh]at e3
   injection e3 with e3
   injection e3 with _ e3
   injection e3 with e3 _
   omega
theorem aei{hs:List Ob.H3}(h:Zd hs):hsW hs:=fun x hx=>by
 rcases h x hx with rfl|⟨k,_,_,rfl⟩
 ·exact⟨by simp only;omega,by simp only;omega⟩
 ·exact⟨by simp only;omega,by simp only;omega⟩
theorem ah5(g:Geo)(d:Nv.D)(s:JZ)(w:World)(hE:DW (grp (Dz g d)::s.L g) w)(hW:Ob.SQ d.cache)(hl:s.hs.length=s.n)(hn:1≤s.n∧s.n≤256)(hB:Zd s.hs)(hcl:d.cache.length=512*s.n)(a:Int)(ha: -9223372036854775808≤a∧a≤9223372036854775807):
 Calls prog 184 [ptr s.pA,.int .i64 a].toArray w fun e w'=>(∃P D:Int,e= .returned (.tuple [.agg [.int .i64 P,.int .i64 D].toArray,.bool (Ob.pl s.n d.cache s.hs a)].toArray)∧(Ob.pl s.n d.cache s.hs a=true→P=Ob.hp d.cache a∧D=Ob.hq d.cache a))∧Only [] w w':=by
 have HR:=Heap.start hE
 have H:=(Heap.nil w).G6 1 3
 have WM:=fun{W:World} (hO:Only [] w W)=>(HR.same hO).Bl 0 rfl
 unfold JZ.L JZ.C at HR
 generalize ids _=I at*
 refine BM 26 func184 O (Aw (Ea H O FK fun p4 _ H=>BN O (Au (AP ?_))))
 refine Jj (fun f W=>∃P D:Int,(Ob.pl s.n d.cache s.hs a=true→P=Ob.hp d.cache a∧D=Ob.hq d.cache a)∧f 5= .bool (Ob.pl s.n d.cache s.hs a)∧f 4=ptr p4∧Heap w [] [blk p4 [.int .i64 P,.int .i64 D] 205,Dw 1 (.slice none 0 0) 0 [] 3] W) ?_ ?_
 ·refine acA (A:=[_]) mixed H [1] O ?_;replace H:=H.drew
  refine vO ?_
  refine Dj 2 O O O (fun _ hS=>CB O aen) (H.Ew [1] O O) (Dj 3 O O O (fun _ hS=>Ef (HR.same hS.only) 1 O O O Kt) (H.Ew [1] O O) (vN ?_))
  refine Dj 6 O O O (fun _ hS=>CB O ZW) (H.Ew [1] O O) (Dj 7 O O O (fun _ hS=>JU (HR.same hS.only) 1 (vs:=[.int .i64 s.n]) O O O O H6 G5) (H.Ew [1] O O) (vM ?_))
  refine Dj 10 O O O (fun _ hS=>CB O aeK) (H.Ew [1] O O) (Dj 11 O O O (fun _ hS=>Ef (HR.same hS.only) 1 O O O amE) (H.Ew [1] O O) (Dj 12 O O O (fun _ hS=>ES O) (H.Ew [1] O O) (Dj 13 O O O (fun _ hS=>CB O RY) (H.Ew [1] O O) (Dj 14 O O O (fun _ hS=>Ef (HR.same hS.only) 2 O O O WX) (H.Ew [1] O O) (Dj 16 O O O (fun _ hS=>BP (v:= .int _ _) O) (H.Ew [1] O O) (Bd 15 O ?_))))))
  refine s_call O ((by have H2:Heap w I ([_,_]++ [_,_,_,_,_,_]) _:=(HR.same H.only).order [3,4,0,1,2,5,6,7] O O;exact ap4 H2.part hl Y)) (aqE O) ?_
  rintro e W1 ⟨A',c',rfl,hSa,H'⟩
  refine⟨_,rfl,?_⟩
  have H:=H.same H';clear H'
  refine qF ?_
  refine Bd 17 O (s_call O (abA (WM H.only) hW Y A' s.n c' s.hs hSa hl Y (aei hB) s.n Y a ha) (afo O) ?_)
  rintro e W1 ⟨⟨P,D,rfl,Vd⟩,H'⟩
  refine⟨_,rfl,?_⟩
  have H:=H.same H';clear H'
  refine qF ?_
  refine Dj 18 O O O (fun _ hS=>CG (v:= .agg _) O O) (H.Ew [1] O O) (Dj 19 O O O (fun _ hS=>CG (v:= .bool _) O O) (H.Ew [1] O O) (Bd 20 O (Ov H 0 O O O O O O O DF ?_)))
  clear H;refine ayJ fun _ H=>?_
  refine qF ?_
  refine Dj 21 O O O (fun _ hS=>DJ (v:= .bool _) O) (H.Ew [1] O O) (CJ (Dt ?_))
  exact⟨P,D,Vd,rfl,rfl,H⟩
 clear H
 rintro f W ⟨P,D,Vd,f5,f4,H⟩
 obtain⟨f,rfl⟩:=VT f5 f4
 clear f5 f4
 refine AO (BH (NJ O (IG H 0 O O O EY DF) (Jp (v:= .bool _) O) ?_))
 exact⟨⟨P,D,rfl,Vd⟩,H.only⟩
end
end
section
section
open Go.RowKit
theorem ao6{U:List Bool}{x:Int}(hx:0≤x∧x<U.length)(a:Int):Gz (Bm.put U x true) a=if x=a then true else Gz U a:=Bm.XZ U x a true hx
theorem aeX(n:Nat)(a:Int):Gz (List.replicate n false) a=false:=by
 unfold Gz Bm.at_
 simp only[List.getD,D7]
 split<;>simp
theorem afT{n:Nat}(a:Int)(xs:List Int):(∀x∈xs,0≤x∧x<(n:Int))→Gz (Bm.puts (List.replicate n false) xs) a=decide (a∈xs):=by
 rw[←PK xs]
 induction xs.reverse with
 |nil=>intro _;rw[show Bm.puts (List.replicate n false) ([]:List Int).reverse=List.replicate n false from rfl,aeX];simp
 |cons x r ih=>
  intro h
  rw[RN]at h⊢
  have h1:=ih fun y hy=>h y (by simp at hy⊢;exact .inl hy)
  have h2:=h x J
  rw[Bm.acP,ao6 (by rw[Bm.Vl,CV];exact h2),h1]
  by_cases e:x=a
  ·subst e;simp
  ·rw[if_neg e]
   have e2:¬a=x:=fun h=>e h.symm
   simp[e2]
structure axb (c:List Int) (hs:List Ob.H3) (n:Nat) (S E:IL):Prop where
 hl:hs.length=n
 n2:2≤n∧n≤256
 sm:Zd hs
 hd:aci c hs
 rn:Rn.Ok S E n (UR hs n)
 cl:c.length=512*n
theorem aui(g:Geo)(d:Nv.D)(n pM pT p:Nat)(hs:List Ob.H3)(rs:List Value)(c pX bS bE:Nat)(S E:IL)(w:World)(hE:DW (grp (Dz g d)::mnE g n pM pT p hs rs c pX bS bE S E) w)(hW:Ob.SQ d.cache)(hM:axb d.cache hs n S E)
 (LA:Option Addr) (ln lc:Nat) (l:List Int) (hS:Gm (Value.int .i64) w (ids (grp (Dz g d)::mnE g n pM pT p hs rs c pX bS bE S E)) LA l) (hl:l.length=ln) (hln:ln≤1000000) (hnd:l.Nodup) (hpl:∀a∈l,Ob.pl n d.cache hs a=true):
 Calls prog 117 [ptr g.p,ptr pM,.slice LA ln lc].toArray w fun e w'=>∃(s:JZ) (N:Nat),I8 d.cache s N (fun _=>False)∧s.n=n∧s.hs=hs∧N≤256*n∧(∀a,Gz s.U a=decide (a∈l))∧e= .returned (.tuple #[ptr s.pA,.int .i64 0])∧
  Heap w (ids (grp (Dz g d)::mnE g n pM pT p hs rs c pX bS bE S E)) (grp (Dz g d)::s.L g) w':=by
 have H:=Heap.start hE
 have hn2:=hM.n2
 have hcl:=hM.cl
 have hGe:=fun{W:World} hE=>arP (w:=W) (g:=g) (n:=n) (pM:=pM) (pT:=pT) (p:=p) (c:=c) (pX:=pX) (bS:=bS) (bE:=bE) (hs:=hs) (rs:=rs) (S:=S) (E:=E) hE
 have hNl:=fun{W:World} hE=>Ze g d W hE
 have hNw:=fun(W:World)=>bNew d.cache.length W Y
 generalize ids (grp (Dz g d)::mnE g n pM pT p hs rs c pX bS bE S E)=I at*
 unfold mnE at H
 refine BM 71 func117 O (Aw (EX O (nV ?_)))
 refine BF O (BF O (BI H O (hGe H.drop.ents) (auS O) fun W1 H=>BF O (BI H O (hNl (H.Bl 0 O)) (PV O) fun W1 H=>s_call O (hNw _) (anc O) ?_)))
 rintro e W1 ⟨pU,bU,AU,cU,rfl,hsu,H'⟩
 refine⟨_,rfl,?_⟩
 have H:=H.more (A:=[grp _]) (Hw H');clear H';simp only[Bv]at H
 refine s_call O (auz _) (awC O) ?_
 rintro e W1 ⟨pF,bF,rfl,H'⟩
 refine⟨_,rfl,?_⟩
 have H:=H.more (A:=[grp _]) (Hw H');clear H';simp only[Bv]at H
 refine AL (FP (ZL _ _ _ _ _) O) (DU H O O fun p24 _ H=>EX O (Au (uj ?_)))
 replace H:Heap w I [_,_,_,_,_,_,_,_] _:=H.order [3,0,4,5,6,7,2,1] rfl rfl
 change Heap w I (grp (Dz g d)::JZ.L g ⟨p24,pM,pT,p,c,pX,bS,bE,pU,bU,cU,pF,bF,rs,S,E,hs,AU,List.replicate d.cache.length false,PL,[],n⟩) _ at H
 obtain⟨s0,hs0⟩:∃s0:JZ,s0=⟨p24,pM,pT,p,c,pX,bS,bE,pU,bU,cU,pF,bF,rs,S,E,hs,AU,List.replicate d.cache.length false,PL,[],n⟩:=⟨_,rfl⟩
 rw[←hs0]at H
 have hsU:({s0 with U:=Bm.puts (List.replicate d.cache.length false) (l.take 0)}:JZ)=s0:=by rw[hs0];rfl
 have hpA:s0.pA=p24:=by rw[hs0]
 have hpM:s0.pM=pM:=by rw[hs0]
 have hsn:s0.n=n:=by rw[hs0]
 have hsh:s0.hs=hs:=by rw[hs0]
 have awx:Ib s0.bU s0.AU s0.cU (List.replicate d.cache.length false):=by rw[hs0];exact hsu
 have hsF:s0.F=PL∧s0.FL=[]:=by rw[hs0];exact⟨rfl,rfl⟩
 have hsr:Rn.Ok s0.S s0.E n (UR hs n):=by rw[hs0];exact hM.rn
 rw[←hpA,←hpM]
 clear hs0 hpA hpM
 have hput:∀xs:List Int,Ib s0.bU s0.AU s0.cU (Bm.puts (List.replicate d.cache.length false) xs):=fun xs=>⟨fun h0=>awx.row (by rw[Bm.an9]at h0;exact h0),by rw[Bm.Vl];exact awx.len⟩
 have as3:∀a∈l,0≤a∧a<(d.cache.length:Int):=fun a ha=>by
  have:=Ob.L8 (hpl a ha);omega
 refine Ec (fun z f W=>∃(i:Nat),i≤ln∧z=ln-i∧f 1=ptr s0.pM∧f 8=ptr s0.pA∧f 25= .slice LA ln lc∧f 26= .int .i64 ln∧f 27= .int .i64 i∧Heap w I (grp (Dz g d)::JZ.L g {s0 with U:=Bm.puts (List.replicate d.cache.length false) (l.take i)}) W) ln ⟨0,Y,rfl,rfl,rfl,rfl,rfl,rfl,by rw[hsU];exact H⟩ ?_
 clear H
 rintro z f W ⟨i,hi,rfl,f1,f8,f25,f26,f27,H⟩
 by_cases hin:i<ln
 ·obtain⟨x,hx⟩:∃x,l[i]? =some x:=⟨_,Ar Y⟩
  have hxm:=A8 hx
  have hxr:=as3 x hxm
  obtain⟨q,o,rfl,hqI,hrd⟩:=hS Y
  have cx:=hrd _ _ hx
  have hPl:=fun{W:World} hE=>ah5 g d {s0 with U:=Bm.puts (List.replicate d.cache.length false) (l.take i)} W hE hW (by show s0.hs.length=s0.n;rw[hsh,hsn];exact hM.hl) (by show 1≤s0.n∧_;rw[hsn];omega) (by show Zd s0.hs;rw[hsh];exact hM.sm) (by show _=512*s0.n;rw[hsn];exact hcl) x Y
  have hpx:Ob.pl s0.n d.cache s0.hs x=true:=by rw[hsn,hsh];exact hpl x hxm
  simp only[hpx]at hPl
  have hAd:=fun{W:World} hE=>anR (p:=s0.pU) (hput (l.take i)) W hE x
  have hno:Bm.has (Bm.puts (List.replicate d.cache.length false) (l.take i)) x=false:=by
   show Gz _ x=false
   rw[afT x _ fun y hy=>as3 y (G7 hy)]
   refine decide_eq_false fun hm=>?_
   obtain⟨j,hj,e⟩:=DY.1 hm
   rw[Dy]at hj
   rw[OD]at e
   obtain⟨g1,g2⟩:=BA.1 hx
   exact Hu.1 hnd j i Y g1 Y (by rw[e,g2])
  rw[hno,Bm.Vl,CV,decide_eq_true hxr,←Bm.acP,Jc hx]at hAd
  simp only[Bool.not_false,Bool.and_self]at hAd
  obtain⟨f,rfl⟩:=Lr f1 f8 f25 f26 f27
  clear f1 f8 f25 f26 f27
  refine gW ?_
  refine AL (Hq H O cx hqI GU) (qw ?_)
  refine jl ?_
  refine s_call O (hPl H.ents) (Qn O) ?_
  rintro e W1 ⟨⟨P,D,rfl,Vd⟩,H'⟩
  refine⟨_,rfl,?_⟩
  have H:=H.same H';clear H'
  refine xI ?_
  refine lH ?_
  refine Ea H O FK fun p11 _ H=>Ov H 0 O O O O O O O DF ?_
  clear H;refine ayJ fun _ H=>?_
  refine BN O (Au (Aw (BL O (gK ?_))))
  refine AP ?_
  replace H:=H.drop
  simp only[JZ.L,JZ.C]at H
  refine sN ?_
  refine BR O XI (BD H 1 O O O PN (Az O (s_call O (hAd (H.Bl 6 O)) (ajf O) ?_)))
  rintro e W1 ⟨rfl,H'⟩
  refine⟨_,rfl,?_⟩
  have H:=H.DN 6 rfl H';clear H';simp only[Bv]at H
  refine AL (EM O) (Au (nM ?_))
  exact⟨_,_,Y,rfl,i+1,Y,rfl,rfl,rfl,rfl,rfl,rfl,H⟩
 ·obtain rfl:i=ln:=Y
  rw[show l.take i=l by rw[←hl];exact DL]at H
  obtain⟨f,rfl⟩:=Lr f1 f8 f25 f26 f27
  clear f1 f8 f25 f26 f27 hsU
  obtain⟨U,hU⟩:∃U,Bm.puts (List.replicate d.cache.length false) l=U:=⟨_,rfl⟩
  have hUl:U.length=512*n:=by rw[←hU,Bm.Vl,CV];exact hcl
  have hUi:∀a,Gz U a=decide (a∈l):=fun a=>by rw[←hU];exact afT a l as3
  have hUs:=hput l
  rw[hU]at H hUs
  have hok0:I8 d.cache {s0 with U:=U} 0 fun a=>1≤a/512:=by
   refine⟨by show s0.hs.length=s0.n;rw[hsh,hsn];exact hM.hl,by show 2≤s0.n∧s0.n≤256;rw[hsn];exact hn2,by show Zd s0.hs;rw[hsh];exact hM.sm,by show aci _ s0.hs;rw[hsh];exact hM.hd,by show Rn.Ok s0.S s0.E s0.n (UR s0.hs s0.n);rw[hsn,hsh];exact hsr,hUs,by show U.length=512*s0.n;rw[hsn];exact hUl,by show Ru (xsOf s0.F);rw[hsF.1];exact Ru.nil,by show Qq s0.F s0.FL 0;rw[hsF.1,hsF.2];exact ank,by show _=512*s0.n;rw[hsn];exact hcl,fun a ha=>?_,fun k hk a=>?_⟩
   ·show Ob.pl s0.n d.cache s0.hs a=true
    rw[hsn,hsh]
    replace ha:Gz U a=true:=ha
    rw[hUi]at ha
    exact hpl a (of_decide_eq_true ha)
   ·show a∈cls (xsOf s0.F) k↔Kw s0.hs s0.n k a∧Gz U a=false∧¬1≤a/512
    rw[hsF.1]
    have h0:cls (xsOf PL) k=[]:=rfl
    rw[h0]
    constructor
    ·intro h;cases h
    ·rintro⟨h1,_,h2⟩
     have:=h1.bd hk
     omega
  obtain⟨s1,hs1⟩:∃s1:JZ,s1={s0 with U:=U}:=⟨_,rfl⟩
  have afY:s1.n=n:=by rw[hs1];exact hsn
  have arD:s1.hs=hs:=by rw[hs1];exact hsh
  have ax0:s1.U=U:=by rw[hs1]
  have avq:({s1 with F:=s0.F,FL:=s0.FL}:JZ)=s1:=by rw[hs1]
  have e1:s0.pA=s1.pA:=by rw[hs1]
  have e2:s0.pM=s1.pM:=by rw[hs1]
  rw[←hs1]at H hok0
  rw[e1,e2]
  refine je ?_
  refine tC ?_
  refine Ec (fun z f W=>∃(b N:Nat) (F:Nat→FQ) (FL:FrM),1≤b∧b≤n∧z=n-b∧I8 d.cache {s1 with F:=F,FL:=FL} N (fun a=>(b:Int)≤a/512)∧N≤256*(b-1)∧f 1=ptr s1.pM∧f 8=ptr s1.pA∧f 13= .int .i64 b∧Heap w I (grp (Dz g d)::JZ.L g {s1 with F:=F,FL:=FL}) W) (n-1) ⟨1,0,s0.F,s0.FL,Y,Y,rfl,by rw[avq];exact hok0,Y,rfl,rfl,rfl,by rw[avq];exact H⟩ ?_
  clear H hok0
  rintro z f W ⟨b,N,F,FL,hb1,hb,rfl,hok,hN,f1,f8,f13,H⟩
  obtain⟨f,rfl⟩:=OE f1 f8 f13
  clear f1 f8 f13
  have hLn:=fun{W:World} hE=>aqV (w:=W) (g:=g) (n:=s1.n) (pT:=s1.pT) (p:=s1.ph) (hs:=s1.hs) (rs:=s1.rs) (c:=s1.hc) hE
  rw[afY]at hLn
  simp only[JZ.L,JZ.C,afY]at H
  by_cases hbn:b<n
  ·obtain⟨h,hh⟩:∃h,s1.hs[b]? =some h:=⟨_,Ar (by rw[arD,hM.hl];exact hbn)⟩
   have hGt:=fun{W:World} hE=>atX (w:=W) (g:=g) (n:=n) (pT:=s1.pT) (p:=s1.ph) (hs:=s1.hs) (rs:=s1.rs) (c:=s1.hc) hE (by rw[arD];exact hM.hl) Y b hb1 h hh
   rcases hok.sm h (A8 hh)with rfl|⟨k,hk0,J6,rfl⟩
   ·refine xw ?_
    refine BI H O ((by have H2:Heap w I ([_,_]++ [_,_,_,_,_,_]) _:=H.order [3,4,0,1,2,5,6,7] O O;exact hLn H2.part)) (aiE O) fun W1 H=>?_
    refine eX ?_
    refine eY ?_
    refine BR O RY (BD H 2 O O O WX (Az O ?_))
    refine BI H O ((by have H2:Heap w I ([_,_]++ [_,_,_,_,_,_]) _:=H.order [3,4,0,1,2,5,6,7] O O;exact hGt H2.part)) (ap' O) fun W1 H=>?_
    refine Ea H O J9 fun Zf _ H=>Ov H 0 O O O O O O O EC ?_
    clear H;refine ayJ fun _ H=>?_
    refine Au (Aw (BR O Oy (mQ ?_)))
    refine AL (Fb O O Y) (Au (DX O (Bj (jy ?_))))
    refine⟨_,_,?_,rfl,b+1,N,F,FL,Y,Y,rfl,hok.congr fun k a hk hc=>?_,Y,rfl,rfl,rfl,by simp only[JZ.L,JZ.C,afY];exact H.drop⟩
    ·omega
    ·obtain⟨b2,i,c1,c2,c3,c4,c5,rfl⟩:=hc
     rw[Hz Y ⟨c4,c5⟩]
     have hne:b2≠b:=fun e=>by
      subst e
      replace c3:s1.hs[b2]? =_:=c3
      rw[hh]at c3;cases c3
     omega
   ·obtain⟨kk,rfl⟩:=Bo hk0
    have hCv:=fun{W:World} hE=>aii g {s1 with F:=F,FL:=FL} W hE hok.su (by show s1.n≤256;omega) N Y hok.fs hok.fr b kk ⟨hb1,by show b<s1.n;omega⟩ Y (fun i i1 i2 hm=>by
     obtain⟨_,_,h3⟩:=(hok.fm kk Y _).1 hm
     rw[Hz Y ⟨i1,i2⟩]at h3
     omega)
    refine xw ?_
    refine BI H O ((by have H2:Heap w I ([_,_]++ [_,_,_,_,_,_]) _:=H.order [3,4,0,1,2,5,6,7] O O;exact hLn H2.part)) (aiE O) fun W1 H=>?_
    refine eX ?_
    refine eY ?_
    refine BR O RY (BD H 2 O O O WX (Az O ?_))
    refine BI H O ((by have H2:Heap w I ([_,_]++ [_,_,_,_,_,_]) _:=H.order [3,4,0,1,2,5,6,7] O O;exact hGt H2.part)) (ap' O) fun W1 H=>?_
    refine Ea H O J9 fun Zf _ H=>Ov H 0 O O O O O O O EC ?_
    clear H;refine ayJ fun _ H=>?_
    refine Au (Aw (BR O Oy (mQ ?_)))
    refine AL (Fv O O Y) (Au (EI O (DR (BF O (Az O (BR O apk (mQ ?_)))))))
    refine s_call O ((by have H2:Heap w I ([_,_,_,_,_,_,_]++ [_,_]) _:=H.order [2,3,4,5,6,7,8,0,1] O O;have hE2:=H2.part;rw[←afY]at hE2;exact hCv hE2)) (apZ O) ?_
    rintro e W1 ⟨F2,FL2,rfl,hf2,hF2,hm2,ho2,H'⟩
    refine⟨_,rfl,?_⟩
    have H2:Heap w I ([_,_,_,_,_,_,_]++ [_,_]) _:=H.order [2,3,4,5,6,7,8,0,1] rfl rfl;simp only[JZ.L,JZ.C,afY]at H';have H3:=H2.step H' (fun i hi=>hi);clear H H' H2;simp only[Bv]at H3;have H:Heap w I [_,_,_,_,_,_,_,_] _:=Heap.Ew H3 [8,0,1,2,3,4,5,6] rfl rfl;clear H3
    refine AA (jy ?_)
    have hnx:=hok.aph (fun a ha=>Y) ⟨hb1,by show b<s1.n;omega⟩ Y hh hf2 hF2 hm2 ho2
    refine⟨_,_,?_,rfl,b+1,N+256,F2,FL2,Y,Y,rfl,hnx.congr fun k a hk hc=>?_,Y,rfl,rfl,rfl,by simp only[JZ.L,JZ.C,afY];exact H⟩
    ·omega
    ·omega
  ·obtain rfl:b=n:=Y
   refine xw ?_
   refine BI H O ((by have H2:Heap w I ([_,_]++ [_,_,_,_,_,_]) _:=H.order [3,4,0,1,2,5,6,7] O O;exact hLn H2.part)) (aiE O) fun W1 H=>?_
   refine kH ?_
   refine Aw (BF O (qZ ?_))
   refine⟨{s1 with F:=F,FL:=FL},N,hok.congr fun k a hk hc=>?_,afY,arD,Y,fun a=>by show Gz s1.U a=_;rw[ax0];exact hUi a,rfl,by simp only[JZ.L,JZ.C,afY];exact H⟩
   have:=hc.bd hk
   replace this:512≤a∧a+Cl.words k≤512*(s1.n:Int):=this
   have hw:=Cl.Hg (k:Int) Y Y
   constructor
   ·intro h;omega
   ·intro h;exact absurd h (fun h=>h)
end
end
section
section
open Go.RowKit
theorem auo(most:Int)(w:World)(h:0≤most):Calls prog 188 [.int .i64 most].toArray w fun e w'=>∃p,e= .returned (ptr p)∧Heap w [] [blk p [.slice none 0 0,.int .i64 most,.int .i64 0] 317] w':=by
 have H:=Heap.nil w
 refine BM 7 func188 O (Aw (EX O (Au (Aw (Az O (Hf O O (ZB (c:=most) O O zJ) (AL (FP (apL _) O) (DU H O O fun p6 _ H=>uq ?_))))))))
 exact⟨_,rfl,H⟩
def mkE(pA pK pS p1 b1 c1 p2 b2 c2:Nat)(A1 A2:Option Addr)(L1 L2:List Bool)(st:List Value)(again:Bool)(cur:Int):List Fp:=
 [blk pK [ptr pA,pt p1,pt p2,ptr pS,.bool again,.int .i64 cur] 274,blk pS st 317,grp (JJ p1 b1 A1 c1 L1),grp (JJ p2 b2 A2 c2 L2)]
theorem auL(g:Geo)(d:Nv.D)(s:JZ)(most:Int)(w:World)(hE:DW (grp (Dz g d)::s.L g) w)(hl:d.cache.length≤131072)(hm:0≤most):
 Calls prog 119 [ptr s.pA,.int .i64 most].toArray w fun e w'=>∃pK pS p1 b1 c1 p2 b2 c2 A1 A2,e= .returned (ptr pK)∧Ib b1 A1 c1 (List.replicate d.cache.length false)∧Ib b2 A2 c2 (List.replicate d.cache.length false)∧Heap w [] (mkE s.pA pK pS p1 b1 c1 p2 b2 c2 A1 A2 (List.replicate d.cache.length false) (List.replicate d.cache.length false) [.slice none 0 0,.int .i64 most,.int .i64 0] false d.cache.length) w':=by
 have HR:=Heap.start hE
 have H:=Heap.nil w
 have hNw:=fun(W:World)=>bNew d.cache.length W Y
 refine BM 19 func119 O (Aw (EX O (Au (Aw (BF O (BI H O (X4 (HR.same H.only).drop.ents) (QX O) fun W1 H=>BI H O (Ze g d _ ((HR.same H.only).Bl 0 O)) (PV O) fun W1 H=>rU ?_))))))
 refine s_call O (hNw _) (anc O) ?_
 rintro e W1 ⟨p1,b1,A1,c1,rfl,hs1,H'⟩
 refine⟨_,rfl,?_⟩
 have H:=H.more (A:=[grp _]) (Hw H');clear H';simp only[Bv]at H
 refine Az O (s_call O (hNw _) (anc O) ?_)
 rintro e W1 ⟨p2,b2,A2,c2,rfl,hs2,H'⟩
 refine⟨_,rfl,?_⟩
 have H:=H.more (A:=[grp _]) (Hw H');clear H';simp only[Bv]at H
 refine Az O (s_call O (auo most _ hm) (at7 O) ?_)
 rintro e W1 ⟨pS,rfl,H'⟩
 refine⟨_,rfl,?_⟩
 have H:=H.more H';clear H';simp only[Bv]at H
 refine Az O (AL (FP (ZG _ _ _ _ _) O) (DU H O O fun ZM _ H=>uq ?_))
 exact⟨_,pS,p1,b1,c1,p2,b2,c2,A1,A2,rfl,hs1,hs2,H.order [0,1,3,2] rfl rfl⟩
theorem av9(g:Geo)(d:Nv.D)(s:JZ)(pK:Nat)(w:World)(hE:DW (grp (Dz g d)::s.L g) w):
 Calls prog 120 [ptr s.pA,ptr pK].toArray w fun e w'=>∃p,e= .returned (ptr p)∧Heap w [] [blk p [ptr s.pA,ptr pK,.int .i64 s.n,.slice none 0 0] 276] w':=by
 have HR:=Heap.start hE
 have H:=Heap.nil w
 unfold JZ.L JZ.C at HR
 generalize ids _=I at*
 refine BM 17 func120 O (Aw (EX O (Au (Aw (BF O (BF O (BF O (Dl O (BR O aeK (BD (HR.same H.only) 1 O O O amE (Dl O (BR O RY (BD (HR.same H.only) 2 O O O WX ?_)))))))))))))
 refine BI H O ((by have H2:Heap w I ([_,_]++ [_,_,_,_,_,_]) _:=(HR.same H.only).order [3,4,0,1,2,5,6,7] O O;exact aqV H2.part)) (aiE O) fun W1 H=>?_
 refine AL (FP (afk _ _ _) O) (DU H O O fun p16 _ H=>uq ?_)
 exact⟨_,rfl,H⟩
theorem ab2(z0 z1 z2:Option Addr)(z3:Nat)(B3 C3:Array Value)(W:World):(Instr.build 199 ([(0,.pointer z0),(1,.pointer z1),(2,.pointer z2),(3,.func (.func z3) B3 C3)]:List (Nat×Value)).toArray).run prog W= .ok (.agg ([(.pointer z0),(.pointer z1),(.pointer z2),(.func (.func z3) B3 C3),(.int .i64 0),(.int .i64 0),(.int .i64 0)]:List Value).toArray) W:=by kernel_rfl
def cyC(pA pK pW:Nat)(fv:Value)(ph cy st:Int):List Value:=[ptr pA,ptr pK,ptr pW,fv,.int .i64 ph,.int .i64 cy,.int .i64 st]
theorem avU(g:Geo)(d:Nv.D)(s:JZ)(most:Int)(fn:Nat)(B C:Array Value)(w:World)(hE:DW (grp (Dz g d)::s.L g) w)(hl:d.cache.length≤131072)(hm:0≤most):
 Calls prog 54 [ptr s.pA,.int .i64 most,.func (.func fn) B C].toArray w fun e w'=>∃pC pW pK pS p1 b1 c1 p2 b2 c2 A1 A2,e= .returned (ptr pC)∧Ib b1 A1 c1 (List.replicate d.cache.length false)∧Ib b2 A2 c2 (List.replicate d.cache.length false)∧
  Heap w [] [blk pC (cyC s.pA pK pW (.func (.func fn) B C) 0 0 0) 199,blk pW [ptr s.pA,ptr pK,.int .i64 s.n,.slice none 0 0] 276,grp (mkE s.pA pK pS p1 b1 c1 p2 b2 c2 A1 A2 (List.replicate d.cache.length false) (List.replicate d.cache.length false) [.slice none 0 0,.int .i64 most,.int .i64 0] false d.cache.length)] w':=by
 have HR:=Heap.start hE
 have H:=Heap.nil w
 refine BM 19 func54 O (Aw (EX O (Au (jl ?_))))
 refine s_call O (auL g d s most _ (HR.same H.only).ents hl hm) (ath O) ?_
 rintro e W1 ⟨pK,pS,p1,b1,c1,p2,b2,c2,A1,A2,rfl,hs1,hs2,H'⟩
 refine⟨_,rfl,?_⟩
 have H:=H.more (A:=[grp _]) (Hw H');clear H';simp only[Bv]at H
 refine EX O (Au (Aw (BF O (BF O (BF O (BF O (s_call O (av9 g d s pK _ (HR.same H.only).ents) (aum O) ?_)))))))
 rintro e W1 ⟨pW,rfl,H'⟩
 refine⟨_,rfl,?_⟩
 have H:=H.more H';clear H';simp only[Bv]at H
 refine AL (BP (v:= .func _ _ _) O) (AL (FP (ab2 _ _ _ _ _ _) O) (DU H O O fun ZM _ H=>uq ?_))
 exact⟨_,pW,pK,pS,p1,b1,c1,p2,b2,c2,A1,A2,rfl,hs1,hs2,H⟩
theorem asj{pA pC pK pW:Nat}{fv:Value}{cy st:Int}{w:World}(hE:DW [blk pC (cyC pA pK pW fv 0 cy st) 199] w)(a:Int):
 Calls prog 93 [ptr pC,.int .i64 a].toArray w fun e w'=>e= .returned (.tuple #[])∧Only [] w w':=by
 have HR:=Heap.start hE
 have H:=Heap.nil w
 refine BM 15 func93 O (eY ?_)
 refine BR O aiD (BD (HR.same H.only) 0 O O O GU (AL (Dc O O Y) (Au (DX O (Bj (fin0 O ?_))))))
 exact⟨rfl,H.only⟩
theorem aeT{pA pC pK pW:Nat}{fv:Value}{cy st:Int}{w:World}(hE:DW [blk pC (cyC pA pK pW fv 0 cy st) 199] w)(a:Int):
 Calls prog 166 [ptr pC,.int .i64 a].toArray w fun e w'=>e= .returned (.tuple #[])∧Only [] w w':=by
 have HR:=Heap.start hE
 have H:=Heap.nil w
 refine BM 15 func166 O (eY ?_)
 refine BR O aiD (BD (HR.same H.only) 0 O O O GU (AL (Fb O O Y) (Au (DX O (Bj (fin0 O ?_))))))
 exact⟨rfl,H.only⟩
end
end
section
section
open Go.RowKit
def alE(g:Geo)(d:Nv.D)(s:JZ):List Fp:=grp (Dz g d)::s.L g
def hdE(pA pH pS b:Nat)(A:Option Addr)(c:Nat)(l:List Bool):List Fp:=[blk pH [ptr pA,pt pS] 191,grp (JJ pS b A c l)]
def Shut(d:Nv.D)(s:JZ)(P:Int→Prop):Prop:=∀x,P x→Gz s.U x=true→∀y∈Ob.ptrs d.cache x,P y
structure Ot (d:Nv.D) (s:JZ) (l l':List Bool) (zs:List Int):Prop where
 len:l'.length=l.length
 up:∀x,Gz l x=true→Gz l' x=true
 got:∀a∈zs,Gz s.U a=true→a<l.length→Gz l' a=true
 cl:∀P,Shut d s P→(∀a∈zs,P a)→∀x,Gz l' x=true→Gz l x=true∨(P x∧Gz s.U x=true)
theorem Ot.nil(d:Nv.D)(s:JZ)(l:List Bool):Ot d s l l []:=⟨rfl,fun _ h=>h,fun _ h=>(by cases h),fun _ _ _ _ h=> .inl h⟩
theorem Ot.app{d:Nv.D}{s:JZ}{l m q:List Bool}{zs bs:List Int}(h:Ot d s l m zs)(k:Ot d s m q bs):Ot d s l q (zs++bs):=
 ⟨k.len.trans h.len,fun x hx=>k.up x (h.up x hx),fun a ha hu hl=>by
  rcases BJ.1 ha with h1|h1
  ·exact k.up a (h.got a h1 hu hl)
  ·exact k.got a h1 hu (by rw[h.len];exact hl),
 fun P hP ha x hx=>by
  rcases k.cl P hP (fun a h1=>ha a (C9 _ h1)) x hx with h1|h1
  ·exact h.cl P hP (fun a h1=>ha a (BQ _ h1)) x h1
  ·exact .inr h1⟩
theorem Za{U:List Bool}{a:Int}(h:Gz U a=true):0≤a∧a<U.length:=by
 unfold Gz at h
 simp only[FV,decide_eq_true_eq]at h
 refine⟨h.1,?_⟩
 have h2:=h.2
 unfold Bm.at_ at h2
 by_cases hlt:a.toNat<U.length
 ·omega
 ·rw[Ba,DC Y]at h2;cases h2
theorem aqm(g:Geo)(d:Nv.D)(s:JZ)(w:World)(hE:DW (alE g d s) w)(hl:d.cache.length≤131072):
 Calls prog 51 [ptr s.pA].toArray w fun e w'=>∃pH pS b A c,e= .returned (ptr pH)∧Ib b A c (List.replicate d.cache.length false)∧Heap w [] [grp (hdE s.pA pH pS b A c (List.replicate d.cache.length false))] w':=by
 have HR:=Heap.start hE
 have H:=Heap.nil w
 have hNw:=fun(W:World)=>bNew d.cache.length W Y
 refine BM 10 func51 O (Aw (EX O (Au (Aw (BF O (BF O (BI H O (X4 (HR.same H.only).drop.ents) (QX O) fun W1 H=>BI H O (Ze g d _ ((HR.same H.only).Bl 0 O)) (PV O) fun W1 H=>s_call O (hNw _) (anc O) ?_)))))))
 rintro e W1 ⟨p1,b1,A1,c1,rfl,hs1,H'⟩
 refine⟨_,rfl,?_⟩
 have H:=H.more (A:=[grp _]) (Hw H');clear H';simp only[Bv]at H
 refine AL (FP (aj2 _ _) O) (DU H O O fun p9 _ H=>uq ?_)
 exact⟨_,p1,b1,A1,c1,rfl,hs1,Hw H⟩
section
variable{pA pH pS b c:Nat}{A:Option Addr}{l:List Bool}{w:World}
theorem awD(hE:DW (hdE pA pH pS b A c l) w)(hs:Ib b A c l)(a:Int):
 Calls prog 143 [ptr pH,.int .i64 a].toArray w fun e w'=>e= .returned (.bool (Gz l a))∧Only [] w w':=by
 have HR:=Heap.start hE
 have H:=Heap.nil w
 unfold hdE at HR
 have hH:=fun{W:World} hE=>amJ (p:=pS) hs W hE a
 refine BM 11 func143 O (qU ?_)
 refine eY ?_
 refine BR O Uz (BD (HR.same H.only) 0 O O O PN (Az O (BI H O (hH ((HR.same H.only).Bl 1 O)) (Zg O) fun W1 H=>gZ ?_)))
 exact⟨rfl,H.only⟩
theorem arn(hE:DW (hdE pA pH pS b A c l) w)(hs:Ib b A c l):
 Calls prog 98 [ptr pH].toArray w fun e w'=>∃B q,e= .returned (.slice B (Bm.elems l).length q)∧Heap w [] [Dw 1 (.slice B (Bm.elems l).length q) (Bm.elems l).length ((Bm.elems l).map (Value.int .i64)) 3] w':=by
 have HR:=Heap.start hE
 have H:=Heap.nil w
 unfold hdE at HR
 have hH:=fun{W:World} hE=>auw (p:=pS) hs W hE
 refine BM 8 func98 O (Aw (En O (uX ?_)))
 refine BR O Uz (BD (HR.same H.only) 0 O O O PN (s_call O (hH ((HR.same H.only).Bl 1 O)) (avF O) ?_))
 rintro e W1 ⟨B,q,rfl,H'⟩
 refine⟨_,rfl,?_⟩
 have H:=H.more H';clear H'
 refine oZ ?_
 exact⟨B,q,rfl,H⟩
end
end
end
end Go.Proofs.YtppilhpcmkekbaaGreat
